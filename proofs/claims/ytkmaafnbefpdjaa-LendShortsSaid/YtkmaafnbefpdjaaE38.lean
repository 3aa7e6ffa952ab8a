/- The statements about lend: LendEasier. -/
import Derived.Test.YtkmaafnbefpdjaaE37
set_option linter.unusedSimpArgs false
set_option linter.unusedVariables false
namespace Go.Proofs.Ytkmaafnbefpdjaa
open Go.RowKit Go.Shelf

set_option maxRecDepth 100000 in
set_option maxHeartbeats 4000000 in
theorem LendEasier_j (x : Hx) (ga : Option Addr) (gc : Nat) (xs : List Gx) (fa : Option Addr) (fc : Nat) (feet : List Int) (which by_ : Int) (hw : 0 ≤ which ∧ which ≤ 255) (hw2 : 0 ≤ by_ ∧ by_ ≤ 255) : Cv Try.prog 7 [.agg #[I x.h.lanes, .slice x.a x.h.shoes.length x.c], .slice ga xs.length gc, .slice fa feet.length fc, .int .u8 which, .int .u8 by_] (KAnd (KHx x) (KAnd (KGs ga gc xs) (KSl fa feet.length fc encI feet))) (.bool true) := by
  refine Cx_of Try.func7 rfl Try.ntmps7 rfl fun w0 M0 => ?_
  refine JC_seq ?_
  refine JC_region ?_
  refine JL_step rfl rfl rfl (jo_box rfl rfl) fun b5 => ?_
  refine JL_pd rfl (det_assign rfl) ?_
  refine JL_nil ?_
  refine JE_seq ?_
  refine JC_seq ?_
  refine JC_seq ?_
  refine JC_region ?_
  refine JL_dt rfl (det_loadKA rfl Try.isAgg24 Try.sizeOf24 rfl rfl) ?_
  refine JL_pd rfl (det_move rfl) ?_
  refine JL_step rfl rfl rfl (jo_callv rfl rfl Try.call33 rfl (ready_j x ga gc xs)) fun _ => ?_
  refine JL_pd rfl (det_not rfl) ?_
  refine JL_pd rfl (det_move rfl) ?_
  -- stop: guard 4
  refine JL_join1 5 40 (.bool (!readyB x.h (gs xs) || !decide (shodE x.h feet = 0))) (fun hj => ?_) ?_
  · refine JL_split (d0 := 35) rfl (fun q1 => ?_) (fun q1 => ?_)
    · refine JL_skip rfl rfl q1 rfl ?_
      refine JL_skip rfl rfl q1 rfl ?_
      refine JL_skip rfl rfl q1 rfl ?_
      refine JL_skip rfl rfl q1 rfl ?_
      refine JL_pd rfl (det_pick_t rfl q1 rfl) ?_
      exact hj (by kernel_rfl) (stsub_consB rfl (by clear hj; first | rfl | (simp only [q1, Bool.and_true, Bool.true_and, Bool.false_and, Bool.and_false, Bool.or_true, Bool.true_or, Bool.or_false, Bool.false_or, Bool.not_true, Bool.not_false]; done) | (simp [q1]; done) | (simp at q1; done) | (simp [q1] <;> omega) | (exfalso; simp at q1; omega)) stsub_nil)
    · refine JL_guard rfl rfl q1 ?_
      refine JL_dt rfl (det_loadKA rfl Try.isAgg24 Try.sizeOf24 rfl rfl) ?_
      refine JL_guard rfl rfl q1 ?_
      refine JL_pd rfl (det_move rfl) ?_
      refine JL_guard rfl rfl q1 ?_
      refine JL_step rfl rfl rfl (jo_callv rfl rfl Try.call35 rfl (shod_jl x fa fc feet)) fun _ => ?_
      refine JL_guard rfl rfl q1 ?_
      refine JL_pd rfl (det_neq rfl rfl) ?_
      refine JL_pd rfl (det_pick_f rfl q1 rfl) ?_
      exact hj (by kernel_rfl) (stsub_consB rfl (by clear hj; first | rfl | (simp only [q1, Bool.and_true, Bool.true_and, Bool.false_and, Bool.and_false, Bool.or_true, Bool.true_or, Bool.or_false, Bool.false_or, Bool.not_true, Bool.not_false]; done) | (simp [q1]; done) | (simp at q1; done) | (simp [q1] <;> omega) | (exfalso; simp at q1; omega)) stsub_nil)
  refine JL_nil ?_
  refine JE_seq ?_
  -- stop: cond
  refine JC_cond rfl (fun h1 => ?_) (fun h1 => ?_)
  · refine JC_seq ?_
    refine JC_region ?_
    refine JL_step rfl rfl rfl (jo_callv rfl rfl Try.call17 rfl (awake_j)) fun _ => ?_
    refine JL_pd rfl (det_assign rfl) ?_
    refine JL_nil ?_
    refine JE_seq ?_
    refine JC_ret ?_
    refine JE_seq_ret ?_
    -- stop: out
    refine JE_out (.inl rfl) () (results1 Try.results7 (res_tmp rfl)) rfl (List.Perm.refl _) (fun _ _ => trivial)
  · simp only [Bool.or_eq_false_iff, Bool.not_eq_false', decide_eq_true_eq] at h1
    obtain ⟨h1, hsh⟩ := h1
    obtain ⟨⟨t1, t2, t3⟩, c1⟩ := ready_of h1
    have hgl : (gs xs).length = xs.length := List.length_map _
    rw [hgl] at t2
    have V := vld_of c1
    have F := vfeet_of hsh
    have hfn := F.n
    have hn := V.hs.n
    have hl0 := V.hs.l0
    have hl1 := V.hs.l1
    obtain ⟨wn, rfl⟩ : ∃ n : Nat, which = n := ⟨which.toNat, by omega⟩
    obtain ⟨s, hsd⟩ : ∃ s : Nat, wn % 10 = s := ⟨_, rfl⟩
    have hs : s < 10 := by omega
    have hrs : (wn : Int).tmod 10 = (s : Int) := by rw [Int.tmod_eq_emod_of_nonneg (by omega), ← hsd]; rfl
    have hs1 := served_l x ga gc xs c1
    have hb1 := bare_l x fa fc feet hsh
    have hsm := fun ad c => served_l ⟨moreH x.h s, ad, c⟩ ga gc xs (fault_more c1 hs)
    have hbm := fun ad c => bare_l ⟨moreH x.h s, ad, c⟩ fa fc feet (shod_more hsh hs)
    have i1 := srvN_lanes (k := x.h.lanes.toNat) (k' := (moreH x.h s).lanes.toNat) V.gr (by unfold moreH; simp only; omega)
    have i2 := barN_shoes (feet := feet) (moreH_shoe V.hs hs)
    obtain ⟨N, hN⟩ : ∃ N, srvN x.h.lanes.toNat (gs xs) = N := ⟨_, rfl⟩
    obtain ⟨B, hB⟩ : ∃ B, barN x.h.shoes feet = B := ⟨_, rfl⟩
    have hss := shoe_get (sh := x.h.shoes) (i := s) (by omega)
    have hsx := V.hs.s _ (List.getElem_mem (show s < x.h.shoes.length by omega))
    rw [hN] at hs1 i1
    have i0 : 0 ≤ N ∧ N ≤ 8 := by
      obtain ⟨p, hp, e⟩ := srvN_ex (k := x.h.lanes.toNat) V.gr
      have h8 := V.n
      have hpn := hp.n
      have hle : served p ≤ p.length := List.countP_le_length
      omega
    rw [hB] at hb1 i2
    have hml : (moreH x.h s).shoes.length = x.h.shoes.length := by unfold moreH; rw [List.length_set]
    simp only [hml] at hsm hbm
    have hlo := lList_o x.h.shoes x.a x.c (by omega)
    refine JC_skip ?_
    refine JE_seq ?_
    refine JC_seq ?_
    refine JC_region ?_
    refine JL_dt rfl (det_loadKA rfl Try.isAgg24 Try.sizeOf24 rfl rfl) ?_
    refine JL_pd rfl (det_move rfl) ?_
    -- stop: op  2 t45 := (call (Call (value f36) (t43 t44) (24 25)))   <0 1>   144
    refine JL_step rfl rfl rfl (jo_callv rfl rfl Try.call36 rfl (hs1)) fun _ => ?_
    refine JL_pd rfl (det_move rfl) ?_
    refine JL_pd rfl (det_extract rfl rfl) ?_
    refine JL_pd rfl (det_extract rfl rfl) ?_
    refine JL_pd rfl (det_assign rfl) ?_
    refine JL_pd rfl (det_assign rfl) ?_
    refine JL_nil ?_
    refine JE_seq ?_
    refine JC_seq ?_
    refine JC_region ?_
    refine JL_dt rfl (det_loadKA rfl Try.isAgg24 Try.sizeOf24 rfl rfl) ?_
    refine JL_pd rfl (det_move rfl) ?_
    -- stop: op  2 t51 := (call (Call (value f37) (t49 t50) (24 22)))   <0 1>   145
    refine JL_step rfl rfl rfl (jo_callv rfl rfl Try.call37 rfl (hb1)) fun _ => ?_
    refine JL_pd rfl (det_move rfl) ?_
    refine JL_pd rfl (det_extract rfl rfl) ?_
    refine JL_pd rfl (det_extract rfl rfl) ?_
    refine JL_pd rfl (det_assign rfl) ?_
    refine JL_pd rfl (det_assign rfl) ?_
    refine JL_nil ?_
    refine JE_seq ?_
    refine JC_seq ?_
    refine JC_seq ?_
    refine JC_region ?_
    refine JL_pd rfl (det_move rfl) ?_
    refine JL_pd rfl (det_not rfl) ?_
    refine JL_pd rfl (det_move rfl) ?_
    -- stop: guard 2
    refine JL_is (d0 := 56) false rfl (by rfl) (fun g1 => ?_)
    refine JL_guard rfl rfl g1 ?_
    refine JL_pd rfl (det_move rfl) ?_
    refine JL_guard rfl rfl g1 ?_
    refine JL_pd rfl (det_not rfl) ?_
    refine JL_pd rfl (det_pick_f rfl g1 rfl) ?_
    refine JL_nil ?_
    refine JE_seq ?_
    -- stop: cond
    refine JC_cond rfl (fun k1 => ?_) (fun k1 => ?_)
    · cases k1
    have hg : (x.h.shoes.flatMap encI)[s * 1]? = some (I (shoe x.h.shoes s)) := by rw [Nat.mul_one, flatI_get _ s (by omega), hss]
    refine JC_skip ?_
    refine JE_seq ?_
    refine JC_seq ?_
    refine JC_region ?_
    refine JL_dt rfl (det_loadKA rfl Try.isAgg24 Try.sizeOf24 rfl rfl) ?_
    refine JL_step rfl rfl rfl (jo_alloc0 Try.zeroValue24 rfl) fun b15 => ?_
    refine JL_step0 rfl rfl (jo_store rfl rfl rfl (by first | (simp only [splice_norm]; done) | (simp only [splice_norm]; rfl) | rfl) Try.sizeOf24 rfl rfl) fun _ => ?_
    refine JL_nil ?_
    refine JE_seq ?_
    refine JC_seq ?_
    refine JC_region ?_
    refine JL_pd rfl (det_fieldAddr rfl fo_24_0) ?_
    refine JL_dt rfl (det_loadK rfl Try.isAgg3 rfl) ?_
    refine JL_pd rfl (det_add rfl rfl ⟨by omega, by omega⟩) ?_
    refine JL_pd rfl (det_min rfl rfl) ?_
    refine JL_pd rfl (det_fieldAddr rfl fo_24_0) ?_
    refine JL_step0 rfl rfl (jo_store rfl rfl rfl (by first | (simp only [splice_norm]; done) | (simp only [splice_norm]; rfl) | rfl) Try.sizeOf3 rfl rfl) fun _ => ?_
    refine JL_nil ?_
    refine JE_seq ?_
    refine JC_seq ?_
    refine JC_region ?_
    refine JL_pd rfl (det_fieldAddr rfl fo_24_1) ?_
    refine JL_dt rfl (det_loadK rfl Try.isAgg22 rfl) ?_
    refine JL_step rfl rfl rfl (jo_call rfl rfl Try.call23 rfl (hlo)) fun x68 => ?_
    refine JL_form x68 (by omega) ?_
    rintro vb vc hxv
    subst hxv
    refine JL_pd rfl (det_fieldAddr rfl fo_24_1) ?_
    refine JL_step0 rfl rfl (jo_store rfl rfl rfl (by first | (simp only [splice_norm]; done) | (simp only [splice_norm]; rfl) | rfl) Try.sizeOf22 rfl rfl) fun _ => ?_
    refine JL_nil ?_
    refine JE_seq ?_
    refine JC_seq ?_
    refine JC_region ?_
    refine JL_pd rfl (det_move rfl) ?_
    refine JL_pd rfl (det_convI rfl Try.runUnderlying5 Try.runUnderlying3 (i64_wrap ⟨by omega, by omega⟩)) ?_
    refine JL_pd rfl (det_rem rfl rfl (by omega)) ?_
    refine JL_pd rfl (det_assign rfl) ?_
    refine JL_nil ?_
    refine JE_seq ?_
    refine JC_seq ?_
    -- stop: draw
    rw [hrs]
    refine JC_draw [11] (by kernel_rfl) ?_
    refine JA_pd (i := 0) rfl (by kernel_rfl) rfl rfl (det_fieldAddr rfl fo_24_1) ?_
    refine JA_dt (i := 1) rfl (by kernel_rfl) (by kernel_rfl) rfl rfl (det_loadK rfl Try.isAgg22 rfl) ?_
    refine JA_pd (i := 2) rfl (by kernel_rfl) rfl rfl (det_move rfl) ?_
    refine JA_pd (i := 3) rfl (by kernel_rfl) rfl rfl (det_fieldAddr rfl fo_24_1) ?_
    refine JA_dt (i := 4) rfl (by kernel_rfl) (by kernel_rfl) rfl rfl (det_loadK rfl Try.isAgg22 rfl) ?_
    refine JA_pd (i := 5) rfl (by kernel_rfl) rfl rfl (det_move rfl) ?_
    refine JA_pd (i := 6) rfl (by kernel_rfl) rfl rfl (det_indexOwn (i := s) rfl rfl (by first | rfl | omega) (by first | assumption | omega) Try.runUnderlying22 Try.sizeOf3) ?_
    refine JA_dt (i := 7) rfl (by kernel_rfl) (by kernel_rfl) rfl rfl (det_loadO rfl Try.isAgg3 hg) ?_
    refine JA_pd (i := 8) rfl (by kernel_rfl) rfl rfl (det_add rfl rfl ⟨by omega, by omega⟩) ?_
    refine JA_pd (i := 9) rfl (by kernel_rfl) rfl rfl (det_min rfl rfl) ?_
    refine JA_pd (i := 10) rfl (by kernel_rfl) rfl rfl (det_indexOwn (i := s) rfl rfl (by first | rfl | omega) (by first | assumption | omega) Try.runUnderlying22 Try.sizeOf3) ?_
    refine JA_tail (i := 11) (by kernel_rfl) rfl rfl rfl rfl (jo_storeO (xs' := (moreH x.h s).shoes.flatMap encI) (vs := [I (min 20 (shoe x.h.shoes s + 1))]) rfl rfl rfl (splice_rec encI x.h.shoes s (min 20 (shoe x.h.shoes s + 1)) (by omega)) Try.sizeOf3 (by rw [flat_len, hn]; simp; omega) rfl) fun _ => ?_
    refine JT_done (by kernel_rfl) ?_
    refine JE_seq ?_
    refine JC_seq ?_
    refine JC_region ?_
    -- stop: op  0 t85 := (load 24 t15)   154
    refine JL_slice (enc := encI) (v := .slice (some ⟨vb, 0, none⟩) x.h.shoes.length vc) (moreH x.h s).shoes noFp rfl hml.symm ?_
    rintro _ _ hxv
    cases hxv
    refine JL_keep b15 noFp ?_
    refine JL_know (R' := KAnd (KHx ⟨moreH x.h s, some ⟨vb, 0, none⟩, vc⟩) _) (fun w h => ⟨by have hq := Knows.know (F := KSl (some ⟨vb, 0, none⟩) x.h.shoes.length vc encI (moreH x.h s).shoes) w h; rw [← hml] at hq; exact hq, h⟩) ?_
    refine JL_dt rfl (det_loadKA rfl Try.isAgg24 Try.sizeOf24 rfl rfl) ?_
    refine JL_pd rfl (det_move rfl) ?_
    -- stop: op  2 t87 := (call (Call (value f36) (t85 t86) (24 25)))   <0 1>   154
    refine JL_step rfl rfl rfl (jo_callv rfl rfl Try.call36 rfl (hsm (some ⟨vb, 0, none⟩) vc)) fun _ => ?_
    refine JL_pd rfl (det_move rfl) ?_
    refine JL_pd rfl (det_extract rfl rfl) ?_
    refine JL_pd rfl (det_extract rfl rfl) ?_
    refine JL_pd rfl (det_assign rfl) ?_
    refine JL_pd rfl (det_assign rfl) ?_
    refine JL_nil ?_
    refine JE_seq ?_
    refine JC_seq ?_
    refine JC_region ?_
    refine JL_dt rfl (det_loadKA rfl Try.isAgg24 Try.sizeOf24 rfl rfl) ?_
    refine JL_pd rfl (det_move rfl) ?_
    -- stop: op  2 t93 := (call (Call (value f37) (t91 t92) (24 22)))   <0 1>   155
    refine JL_step rfl rfl rfl (jo_callv rfl rfl Try.call37 rfl (hbm (some ⟨vb, 0, none⟩) vc)) fun _ => ?_
    refine JL_pd rfl (det_move rfl) ?_
    refine JL_pd rfl (det_extract rfl rfl) ?_
    refine JL_pd rfl (det_extract rfl rfl) ?_
    refine JL_pd rfl (det_assign rfl) ?_
    refine JL_pd rfl (det_assign rfl) ?_
    refine JL_nil ?_
    refine JE_seq ?_
    refine JC_seq ?_
    refine JC_seq ?_
    refine JC_region ?_
    refine JL_pd rfl (det_move rfl) ?_
    refine JL_pd rfl (det_not rfl) ?_
    refine JL_pd rfl (det_move rfl) ?_
    -- stop: guard 2
    generalize srvN (moreH x.h s).lanes.toNat (gs xs) = N2 at i1 ⊢
    generalize barN (moreH x.h s).shoes feet = B2 at i2 ⊢
    skip
    refine JL_is (d0 := 98) false rfl (by (first | rfl | exact decide_eq_false (by omega))) (fun g1 => ?_)
    refine JL_guard rfl rfl g1 ?_
    refine JL_pd rfl (det_move rfl) ?_
    refine JL_guard rfl rfl g1 ?_
    refine JL_pd rfl (det_not rfl) ?_
    refine JL_pd rfl (det_pick_f rfl g1 rfl) ?_
    refine JL_pd rfl (det_move rfl) ?_
    refine JL_is (d0 := 102) false rfl (by (first | rfl | exact decide_eq_false (by omega))) (fun g2 => ?_)
    refine JL_guard rfl rfl g2 ?_
    refine JL_pd rfl (det_move rfl) ?_
    refine JL_guard rfl rfl g2 ?_
    refine JL_pd rfl (det_move rfl) ?_
    refine JL_guard rfl rfl g2 ?_
    refine JL_pd rfl (det_lss rfl rfl) ?_
    refine JL_pd rfl (det_pick_f rfl g2 rfl) ?_
    refine JL_pd rfl (det_move rfl) ?_
    refine JL_is (d0 := 107) false rfl (by (first | rfl | exact decide_eq_false (by omega))) (fun g3 => ?_)
    refine JL_guard rfl rfl g3 ?_
    refine JL_pd rfl (det_move rfl) ?_
    refine JL_guard rfl rfl g3 ?_
    refine JL_pd rfl (det_move rfl) ?_
    refine JL_guard rfl rfl g3 ?_
    refine JL_pd rfl (det_gtr rfl rfl) ?_
    refine JL_pd rfl (det_pick_f rfl g3 rfl) ?_
    refine JL_nil ?_
    refine JE_seq ?_
    -- stop: cond
    refine JC_cond rfl (fun k2 => ?_) (fun k2 => ?_)
    · exact absurd (of_decide_eq_true k2) (by omega)
    refine JC_skip ?_
    refine JE_seq ?_
    refine JC_seq ?_
    refine JC_seq ?_
    refine JC_region ?_
    refine JL_pd rfl (det_move rfl) ?_
    refine JL_pd rfl (det_len rfl Try.runUnderlying22) ?_
    refine JL_pd rfl (det_gtr rfl rfl) ?_
    refine JL_nil ?_
    refine JE_seq ?_
    -- stop: cond
    refine JC_keep b5 noFp ?_
    refine JC_cutK (γ := Unit) (fun _ => True) (fun _ => []) (fun _ => []) (fun _ => KTrue) [] (fun K hK => ?_) (fun _ _ => ?_)
    · skip
      -- stop: cond
      refine JC_if rfl (fun k3 => ?_) (fun k3 => ?_)
      · refine JC_seq ?_
        refine JC_region ?_
        refine JL_pd rfl (det_move rfl) ?_
        refine JL_pd rfl (det_convI rfl Try.runUnderlying5 Try.runUnderlying3 (i64_wrap ⟨by omega, by omega⟩)) ?_
        refine JL_pd rfl (det_move rfl) ?_
        refine JL_pd rfl (det_len rfl Try.runUnderlying22) ?_
        refine JL_pd rfl (det_rem rfl rfl (by omega)) ?_
        refine JL_pd rfl (det_assign rfl) ?_
        refine JL_nil ?_
        refine JE_seq ?_
        refine JC_seq ?_
        -- stop: draw
        obtain ⟨k, hkd⟩ : ∃ k : Nat, wn % feet.length = k := ⟨_, rfl⟩
        have hk : k < feet.length := by rw [← hkd]; exact Nat.mod_lt _ (by omega)
        have hrem : (wn : Int).tmod (feet.length : Int) = (k : Int) := by rw [Int.tmod_eq_emod_of_nonneg (by omega), ← hkd]; rfl
        rw [hrem]
        refine JC_pure (p := feet.length ≤ fc) (by intro w h; exact (Knows.know (F := KSl fa feet.length fc encI feet) w h).1.1) fun hgc => ?_
        refine JC_know (R' := KAnd (KSl (dropA fa (k + 1) fc 1) (feet.length - (k + 1)) (fc - (k + 1)) encI (feet.drop (k + 1))) (KAnd (KSl fa k fc encI (feet.take k)) _)) (fun w h => ⟨KSl_drop (Knows.know (F := KSl fa feet.length fc encI feet) w h) (by omega), KSl_take (Knows.know (F := KSl fa feet.length fc encI feet) w h) (by omega), h⟩) ?_
        have hrl : (feet.take k ++ feet.drop (k + 1)).length = k + (feet.length - (k + 1)) := by rw [List.length_append, List.length_drop, List.length_take]; omega
        have hlo := lList_o (feet.take k) fa fc (by rw [List.length_take]; omega)
        rw [List.length_take, Nat.min_eq_left (by omega)] at hlo
        have hb3 := fun ad c => bare_l x ad c (feet.take k ++ feet.drop (k + 1)) (shod_less hsh k)
        have i3 := barN_less (sh := x.h.shoes) (feet := feet) k
        rw [hB] at i3
        simp only [hrl] at hb3
        refine JC_draw [] (by kernel_rfl) ?_
        refine JA_dt (i := 0) rfl (by kernel_rfl) (by kernel_rfl) rfl rfl (det_loadKA rfl Try.isAgg24 Try.sizeOf24 rfl rfl) ?_
        refine JA_pd (i := 1) rfl (by kernel_rfl) rfl rfl (det_move rfl) ?_
        refine JA_pd (i := 2) rfl (by kernel_rfl) rfl rfl (det_move rfl) ?_
        refine JA_pd (i := 3) rfl (by kernel_rfl) rfl rfl (det_sliceK k rfl rfl rfl (by omega) Try.runUnderlying22 Try.sizeOf3) ?_
        refine JA_pd (i := 5) rfl (by kernel_rfl) rfl rfl (det_move rfl) ?_
        refine JA_pd (i := 6) rfl (by kernel_rfl) rfl rfl (det_move rfl) ?_
        refine JA_pd (i := 7) rfl (by kernel_rfl) rfl rfl (det_add rfl rfl ⟨by omega, by omega⟩) ?_
        refine JA_pd (i := 8) rfl (by kernel_rfl) rfl rfl (det_sliceF (k + 1) rfl rfl (by omega) (by omega) Try.runUnderlying22 Try.sizeOf3) ?_
        refine JA_one (i := 4) (by kernel_rfl) rfl rfl (jo_call rfl rfl Try.call23 rfl (hlo)) (fun _ => ⟨hsub_drop 1 rfl, fun _ h => h.2⟩) fun x125 => ?_
        refine JA_oneH (i := 9) (by kernel_rfl) rfl rfl (jo_appendK (e := encI) el_22 rfl rfl encI_one (by omega)) (fun _ => ⟨HIn.sub, Knows.know⟩) fun b130 => ?_
        refine JA_slice (enc := encI) (v := b130) (feet.take k ++ feet.drop (k + 1)) noFp (by rw [List.flatMap_append]) hrl.symm ?_
        rintro ka kc rfl
        refine JA_one (i := 10) (by kernel_rfl) rfl rfl (jo_callv rfl rfl Try.call37 rfl (hb3 ka kc)) (fun _ => ⟨hsub_refl, fun _ h => h⟩) fun _ => ?_
        refine JA_pd (i := 11) rfl (by kernel_rfl) rfl rfl (det_move rfl) ?_
        refine JA_pd (i := 12) rfl (by kernel_rfl) rfl rfl (det_extract rfl rfl) ?_
        refine JA_pd (i := 13) rfl (by kernel_rfl) rfl rfl (det_extract rfl rfl) ?_
        refine JA_pd (i := 14) rfl (by kernel_rfl) rfl rfl (det_assign rfl) ?_
        refine JA_pd (i := 15) rfl (by kernel_rfl) rfl rfl (det_assign rfl) ?_
        refine JA_done (by kernel_rfl) ?_
        refine JE_seq ?_
        refine JC_seq ?_
        refine JC_region ?_
        refine JL_pd rfl (det_move rfl) ?_
        refine JL_pd rfl (det_not rfl) ?_
        refine JL_pd rfl (det_move rfl) ?_
        -- stop: guard 2
        generalize barN x.h.shoes (feet.take k ++ feet.drop (k + 1)) = B3 at i3 ⊢
        skip
        refine JL_is (d0 := 136) false rfl (by (first | rfl | exact decide_eq_false (by omega))) (fun g1 => ?_)
        refine JL_guard rfl rfl g1 ?_
        refine JL_pd rfl (det_move rfl) ?_
        refine JL_guard rfl rfl g1 ?_
        refine JL_pd rfl (det_move rfl) ?_
        refine JL_guard rfl rfl g1 ?_
        refine JL_pd rfl (det_gtr rfl rfl) ?_
        refine JL_pd rfl (det_pick_f rfl g1 rfl) ?_
        refine JL_nil ?_
        refine JE_seq ?_
        -- stop: cond
        refine JC_cond rfl (fun k4 => ?_) (fun k4 => ?_)
        · exact absurd (of_decide_eq_true k4) (by omega)
        refine JC_skip ?_
        -- stop: end
        exact JE_cutK hK () trivial stsub_nil ht_nil
      · refine JC_skip ?_
        -- stop: end
        exact JE_cutK hK () trivial stsub_nil ht_nil
    dsimp only [List.cons_append, List.nil_append]
    refine JC_seq ?_
    refine JC_seq ?_
    refine JC_region ?_
    refine JL_pd rfl (det_move rfl) ?_
    refine JL_pd rfl (det_len rfl Try.runUnderlying25) ?_
    refine JL_pd rfl (det_eql rfl rfl) ?_
    refine JL_nil ?_
    refine JE_seq ?_
    -- stop: cond
    refine JC_if rfl (fun k5 => ?_) (fun k5 => ?_)
    · refine JC_seq ?_
      refine JC_region ?_
      refine JL_step rfl rfl rfl (jo_callv rfl rfl Try.call17 rfl (awake_j)) fun _ => ?_
      refine JL_pd rfl (det_assign rfl) ?_
      refine JL_nil ?_
      refine JE_seq ?_
      refine JC_ret ?_
      refine JE_seq_ret ?_
      -- stop: out
      refine JE_out (.inl rfl) () (results1 Try.results7 (res_tmp rfl)) rfl (List.Perm.refl _) (fun _ _ => trivial)
    · obtain ⟨k, hkd⟩ : ∃ k : Nat, wn % xs.length = k := ⟨_, rfl⟩
      have hk : k < xs.length := by rw [← hkd]; exact Nat.mod_lt _ (by omega)
      have hrem : (wn : Int).tmod (xs.length : Int) = (k : Int) := by rw [Int.tmod_eq_emod_of_nonneg (by omega), ← hkd]; rfl
      obtain ⟨bn, rfl⟩ : ∃ n : Nat, by_ = n := ⟨by_.toNat, by omega⟩
      have hd4 : 0 ≤ (bn : Int).tmod 4 ∧ (bn : Int).tmod 4 < 4 := by rw [Int.tmod_eq_emod_of_nonneg (by omega)]; omega
      refine JC_skip ?_
      refine JE_seq ?_
      refine JC_seq ?_
      refine JC_region ?_
      refine JL_pd rfl (det_move rfl) ?_
      refine JL_pd rfl (det_convI rfl Try.runUnderlying5 Try.runUnderlying3 (i64_wrap ⟨by omega, by omega⟩)) ?_
      refine JL_pd rfl (det_move rfl) ?_
      refine JL_pd rfl (det_len rfl Try.runUnderlying25) ?_
      refine JL_pd rfl (det_rem rfl rfl (by omega)) ?_
      refine JL_pd rfl (det_assign rfl) ?_
      refine JL_nil ?_
      refine JE_seq ?_
      refine JC_seq ?_
      -- stop: draw
      rw [hrem]
      refine JC_pure (p := xs.length ≤ gc) (by intro w h; exact (Knows.know (F := KSl ga xs.length gc encG xs) w h).1.1) fun hgc => ?_
      refine JC_know (R' := KAnd (KSl (dropA ga (k + 1) gc 4) (xs.length - (k + 1)) (gc - (k + 1)) encG (xs.drop (k + 1))) _) (fun w h => ⟨KSl_drop (Knows.know (F := KSl ga xs.length gc encG xs) w h) (by omega), h⟩) ?_
      refine JC_cutF (γ := Value × Value) (fun _ => True) (fun q => [(25, q.1), (26, q.2)]) (fun q => [ow q.1 55 4 (0 + k + (xs.length - (k + 1))) ([] ++ (xs.take k).flatMap encG ++ (xs.drop (k + 1)).flatMap encG), ow q.2 55 4 (0 + xs.length) ([] ++ xs.flatMap encG)]) [] (fun K hK => ?_) (fun q _ => ?_)
      · refine JC_draw [] (by kernel_rfl) ?_
        refine JA_pd (i := 1) rfl (by kernel_rfl) rfl rfl (det_move rfl) ?_
        refine JA_pd (i := 2) rfl (by kernel_rfl) rfl rfl (det_move rfl) ?_
        refine JA_pd (i := 3) rfl (by kernel_rfl) rfl rfl (det_sliceK k rfl rfl rfl (by omega) Try.runUnderlying25 Try.sizeOf55) ?_
        refine JA_pd (i := 5) rfl (by kernel_rfl) rfl rfl (det_move rfl) ?_
        refine JA_pd (i := 6) rfl (by kernel_rfl) rfl rfl (det_move rfl) ?_
        refine JA_pd (i := 7) rfl (by kernel_rfl) rfl rfl (det_add rfl rfl ⟨by omega, by omega⟩) ?_
        refine JA_pd (i := 8) rfl (by kernel_rfl) rfl rfl (det_sliceF (k + 1) rfl rfl (by omega) (by omega) Try.runUnderlying25 Try.sizeOf55) ?_
        refine JA_pd (i := 11) rfl (by kernel_rfl) rfl rfl (det_move rfl) ?_
        refine JA_ready (rs := [0, 10]) (by kernel_rfl) rfl ?_
        refine JAl_cons (i := 0) rfl rfl (jo_buildOwn (z := 4) rfl (bsl_25_0) rfl (by decide)) (fun _ => ⟨hsub_drop 1 rfl, fun _ h => h⟩) (fun b150 => ?_) ?_
        · refine JA_ready (rs := [4, 10]) (by kernel_rfl) rfl ?_
          refine JAl_consH (i := 4) rfl rfl (jo_appendK (e := encG) (ys := xs.take k) (hb := ⟨fun w h => KSl_take (Knows.know (F := KSl ga xs.length gc encG xs) w h) (by omega)⟩) el_25 rfl rfl encG_one' (by omega)) (fun _ => ⟨HIn.sub, Knows.know⟩) (fun b154 => ?_) ?_
          · refine JA_ready (rs := [9, 10]) (by kernel_rfl) rfl ?_
            refine JAl_consH (i := 9) rfl rfl (jo_appendK (e := encG) el_25 rfl rfl encG_one' (by omega)) (fun _ => ⟨HIn.sub, Knows.know⟩) (fun b159 => ?_) ?_
            · refine JA_one (i := 10) (by kernel_rfl) rfl rfl (jo_buildOwn (z := 4) rfl (bsl_25_0) rfl (by decide)) (fun _ => ⟨hsub_drop 1 rfl, fun _ h => h⟩) fun b160 => ?_
              refine JA_oneH (i := 12) (by kernel_rfl) rfl rfl (jo_appendK (e := encG) el_25 rfl rfl encG_one' (by omega)) (fun _ => ⟨HIn.sub, Knows.know⟩) fun b162 => ?_
              refine JA_pd (i := 13) rfl (by kernel_rfl) rfl rfl (det_assign rfl) ?_
              refine JA_pd (i := 14) rfl (by kernel_rfl) rfl rfl (det_assign rfl) ?_
              refine JA_done (by kernel_rfl) ?_
              exact JE_cutF hK (b159, b162) trivial (stsub_cons rfl (stsub_cons rfl stsub_nil)) (ht_ow rfl rfl (ht_ow rfl rfl ht_nil))
            refine JAl_cons (i := 10) rfl rfl (jo_buildOwn (z := 4) rfl (bsl_25_0) rfl (by decide)) (fun _ => ⟨hsub_drop 1 rfl, fun _ h => h⟩) (fun b160 => ?_) ?_
            · refine JA_oneH (i := 9) (by kernel_rfl) rfl rfl (jo_appendK (e := encG) el_25 rfl rfl encG_one' (by omega)) (fun _ => ⟨HIn.sub, Knows.know⟩) fun b159 => ?_
              refine JA_oneH (i := 12) (by kernel_rfl) rfl rfl (jo_appendK (e := encG) el_25 rfl rfl encG_one' (by omega)) (fun _ => ⟨HIn.sub, Knows.know⟩) fun b162 => ?_
              refine JA_pd (i := 13) rfl (by kernel_rfl) rfl rfl (det_assign rfl) ?_
              refine JA_pd (i := 14) rfl (by kernel_rfl) rfl rfl (det_assign rfl) ?_
              refine JA_done (by kernel_rfl) ?_
              exact JE_cutF hK (b159, b162) trivial (stsub_cons rfl (stsub_cons rfl stsub_nil)) (ht_ow rfl rfl (ht_ow rfl rfl ht_nil))
            exact JAl_nil
          refine JAl_cons (i := 10) rfl rfl (jo_buildOwn (z := 4) rfl (bsl_25_0) rfl (by decide)) (fun _ => ⟨hsub_drop 1 rfl, fun _ h => h⟩) (fun b160 => ?_) ?_
          · refine JA_oneH (i := 4) (by kernel_rfl) rfl rfl (jo_appendK (e := encG) (ys := xs.take k) (hb := ⟨fun w h => KSl_take (Knows.know (F := KSl ga xs.length gc encG xs) w h) (by omega)⟩) el_25 rfl rfl encG_one' (by omega)) (fun _ => ⟨HIn.sub, Knows.know⟩) fun b154 => ?_
            refine JA_oneH (i := 9) (by kernel_rfl) rfl rfl (jo_appendK (e := encG) el_25 rfl rfl encG_one' (by omega)) (fun _ => ⟨HIn.sub, Knows.know⟩) fun b159 => ?_
            refine JA_oneH (i := 12) (by kernel_rfl) rfl rfl (jo_appendK (e := encG) el_25 rfl rfl encG_one' (by omega)) (fun _ => ⟨HIn.sub, Knows.know⟩) fun b162 => ?_
            refine JA_pd (i := 13) rfl (by kernel_rfl) rfl rfl (det_assign rfl) ?_
            refine JA_pd (i := 14) rfl (by kernel_rfl) rfl rfl (det_assign rfl) ?_
            refine JA_done (by kernel_rfl) ?_
            exact JE_cutF hK (b159, b162) trivial (stsub_cons rfl (stsub_cons rfl stsub_nil)) (ht_ow rfl rfl (ht_ow rfl rfl ht_nil))
          exact JAl_nil
        refine JAl_cons (i := 10) rfl rfl (jo_buildOwn (z := 4) rfl (bsl_25_0) rfl (by decide)) (fun _ => ⟨hsub_drop 1 rfl, fun _ h => h⟩) (fun b160 => ?_) ?_
        · refine JA_one (i := 0) (by kernel_rfl) rfl rfl (jo_buildOwn (z := 4) rfl (bsl_25_0) rfl (by decide)) (fun _ => ⟨hsub_drop 1 rfl, fun _ h => h⟩) fun b150 => ?_
          refine JA_oneH (i := 4) (by kernel_rfl) rfl rfl (jo_appendK (e := encG) (ys := xs.take k) (hb := ⟨fun w h => KSl_take (Knows.know (F := KSl ga xs.length gc encG xs) w h) (by omega)⟩) el_25 rfl rfl encG_one' (by omega)) (fun _ => ⟨HIn.sub, Knows.know⟩) fun b154 => ?_
          refine JA_oneH (i := 9) (by kernel_rfl) rfl rfl (jo_appendK (e := encG) el_25 rfl rfl encG_one' (by omega)) (fun _ => ⟨HIn.sub, Knows.know⟩) fun b159 => ?_
          refine JA_oneH (i := 12) (by kernel_rfl) rfl rfl (jo_appendK (e := encG) el_25 rfl rfl encG_one' (by omega)) (fun _ => ⟨HIn.sub, Knows.know⟩) fun b162 => ?_
          refine JA_pd (i := 13) rfl (by kernel_rfl) rfl rfl (det_assign rfl) ?_
          refine JA_pd (i := 14) rfl (by kernel_rfl) rfl rfl (det_assign rfl) ?_
          refine JA_done (by kernel_rfl) ?_
          exact JE_cutF hK (b159, b162) trivial (stsub_cons rfl (stsub_cons rfl stsub_nil)) (ht_ow rfl rfl (ht_ow rfl rfl ht_nil))
        exact JAl_nil
      dsimp only [List.cons_append, List.nil_append]
      refine JC_seq ?_
      -- stop: draw
      obtain ⟨q1, q2⟩ := q
      dsimp only
      obtain ⟨ys1, hy1⟩ : ∃ ys : List Gx, ys = xs.take k ++ xs.drop (k + 1) := ⟨_, rfl⟩
      have hl1' : 0 + k + (xs.length - (k + 1)) = ys1.length := by rw [hy1, List.length_append, List.length_take, List.length_drop]; omega
      have hm1 : ∀ z ∈ ys1, z ∈ xs := fun z hz => by
        rw [hy1] at hz
        rcases List.mem_append.1 hz with hz | hz
        · exact List.mem_of_mem_take hz
        · exact List.mem_of_mem_drop hz
      have hg1 : gs ys1 = (gs xs).take k ++ (gs xs).drop (k + 1) := by rw [hy1]; simp [gs]
      refine JC_slice (enc := encG) (v := q1) ys1 noFp (by rw [hy1, List.flatMap_append]) hl1' ?_
      rintro la lc rfl
      refine JC_formS q2 ?_
      rintro pa pc rfl
      refine JC_some (cap := pc) (n := 0 + xs.length) pa (by omega) ?_
      rintro pb rfl
      obtain ⟨y, hy⟩ : ∃ y : Gx, y = ⟨shortG xs[k].g ((bn : Int).tmod 4), xs[k].a, xs[k].c⟩ := ⟨_, rfl⟩
      have hv := V.gr _ (List.mem_map.2 ⟨_, List.getElem_mem hk, rfl⟩ : xs[k].g ∈ gs xs)
      have v1 := hv.f0
      have v2 := hv.fl
      have v3 := hv.lh
      have v4 := hv.h1
      have hx2 : splice (xs.flatMap encG) (k * 4 + 1) [I (max xs[k].g.fr (xs[k].g.lo - (bn : Int).tmod 4)), I (max xs[k].g.fr (xs[k].g.hi - (bn : Int).tmod 4))] = (xs.set k y).flatMap encG := by
        exact splice_in encG xs k y 1 _ hk (by simp) (by rw [hy]; rfl)
      refine JC_draw [37] (by kernel_rfl) ?_
      refine JA_pd (i := 0) rfl (by kernel_rfl) rfl rfl (det_move rfl) ?_
      refine JA_pd (i := 1) rfl (by kernel_rfl) rfl rfl (det_move rfl) ?_
      refine JA_pd (i := 2) rfl (by kernel_rfl) rfl rfl (det_move rfl) ?_
      refine JA_pd (i := 3) rfl (by kernel_rfl) rfl rfl (det_move rfl) ?_
      refine JA_dt (i := 4) rfl (by kernel_rfl) (by kernel_rfl) rfl rfl (det_indexAddr rfl rfl (by first | rfl | omega) (by first | assumption | omega | decide) Try.runUnderlying25 Try.sizeOf55) ?_
      refine JA_pd (i := 5) rfl (by kernel_rfl) rfl rfl (det_fieldAddrE rfl fo_55_0) ?_
      refine JA_dt (i := 6) rfl (by kernel_rfl) (by kernel_rfl) rfl rfl (det_loadEk rfl (by first | assumption | omega | decide) Try.isAgg3 rfl rfl) ?_
      refine JA_pd (i := 7) rfl (by kernel_rfl) rfl rfl (det_move rfl) ?_
      refine JA_pd (i := 8) rfl (by kernel_rfl) rfl rfl (det_move rfl) ?_
      refine JA_dt (i := 9) rfl (by kernel_rfl) (by kernel_rfl) rfl rfl (det_indexAddr rfl rfl (by first | rfl | omega) (by first | assumption | omega | decide) Try.runUnderlying25 Try.sizeOf55) ?_
      refine JA_pd (i := 10) rfl (by kernel_rfl) rfl rfl (det_fieldAddrE rfl fo_55_1) ?_
      refine JA_pd (i := 11) rfl (by kernel_rfl) rfl rfl (det_fieldAddrEk (k2 := 1) rfl fo_53_0 rfl) ?_
      refine JA_dt (i := 12) rfl (by kernel_rfl) (by kernel_rfl) rfl rfl (det_loadEk rfl (by first | assumption | omega | decide) Try.isAgg3 rfl rfl) ?_
      refine JA_pd (i := 13) rfl (by kernel_rfl) rfl rfl (det_move rfl) ?_
      refine JA_pd (i := 14) rfl (by kernel_rfl) rfl rfl (det_convI rfl Try.runUnderlying5 Try.runUnderlying3 (i64_wrap ⟨by omega, by omega⟩)) ?_
      refine JA_pd (i := 15) rfl (by kernel_rfl) rfl rfl (det_rem rfl rfl (by omega)) ?_
      refine JA_pd (i := 16) rfl (by kernel_rfl) rfl rfl (det_sub rfl rfl ⟨by omega, by omega⟩) ?_
      refine JA_pd (i := 17) rfl (by kernel_rfl) rfl rfl (det_max rfl rfl) ?_
      refine JA_pd (i := 18) rfl (by kernel_rfl) rfl rfl (det_move rfl) ?_
      refine JA_pd (i := 19) rfl (by kernel_rfl) rfl rfl (det_move rfl) ?_
      refine JA_dt (i := 20) rfl (by kernel_rfl) (by kernel_rfl) rfl rfl (det_indexAddr rfl rfl (by first | rfl | omega) (by first | assumption | omega | decide) Try.runUnderlying25 Try.sizeOf55) ?_
      refine JA_pd (i := 21) rfl (by kernel_rfl) rfl rfl (det_fieldAddrE rfl fo_55_0) ?_
      refine JA_dt (i := 22) rfl (by kernel_rfl) (by kernel_rfl) rfl rfl (det_loadEk rfl (by first | assumption | omega | decide) Try.isAgg3 rfl rfl) ?_
      refine JA_pd (i := 23) rfl (by kernel_rfl) rfl rfl (det_move rfl) ?_
      refine JA_pd (i := 24) rfl (by kernel_rfl) rfl rfl (det_move rfl) ?_
      refine JA_dt (i := 25) rfl (by kernel_rfl) (by kernel_rfl) rfl rfl (det_indexAddr rfl rfl (by first | rfl | omega) (by first | assumption | omega | decide) Try.runUnderlying25 Try.sizeOf55) ?_
      refine JA_pd (i := 26) rfl (by kernel_rfl) rfl rfl (det_fieldAddrE rfl fo_55_1) ?_
      refine JA_pd (i := 27) rfl (by kernel_rfl) rfl rfl (det_fieldAddrEk (k2 := 2) rfl fo_53_1 rfl) ?_
      refine JA_dt (i := 28) rfl (by kernel_rfl) (by kernel_rfl) rfl rfl (det_loadEk rfl (by first | assumption | omega | decide) Try.isAgg3 rfl rfl) ?_
      refine JA_pd (i := 29) rfl (by kernel_rfl) rfl rfl (det_move rfl) ?_
      refine JA_pd (i := 30) rfl (by kernel_rfl) rfl rfl (det_convI rfl Try.runUnderlying5 Try.runUnderlying3 (i64_wrap ⟨by omega, by omega⟩)) ?_
      refine JA_pd (i := 31) rfl (by kernel_rfl) rfl rfl (det_rem rfl rfl (by omega)) ?_
      refine JA_pd (i := 32) rfl (by kernel_rfl) rfl rfl (det_sub rfl rfl ⟨by omega, by omega⟩) ?_
      refine JA_pd (i := 33) rfl (by kernel_rfl) rfl rfl (det_max rfl rfl) ?_
      refine JA_pd (i := 34) rfl (by kernel_rfl) rfl rfl (det_build rfl (bld_53_0_1 _ _)) ?_
      refine JA_pd (i := 35) rfl (by kernel_rfl) rfl rfl (det_indexOwn (i := k) rfl rfl (by first | rfl | omega) (by first | assumption | omega) Try.runUnderlying25 Try.sizeOf55) ?_
      refine JA_pd (i := 36) rfl (by kernel_rfl) rfl rfl (det_fieldAddr rfl fo_55_1) ?_
      refine JA_tail (i := 37) (by kernel_rfl) rfl rfl rfl rfl (jo_storeO (xs' := (xs.set k y).flatMap encG) (vs := [I (max xs[k].g.fr (xs[k].g.lo - (bn : Int).tmod 4)), I (max xs[k].g.fr (xs[k].g.hi - (bn : Int).tmod 4))]) rfl rfl rfl hx2 Try.sizeOf53 (by rw [flat_len]; simp; omega) rfl) fun _ => ?_
      refine JT_done (by kernel_rfl) ?_
      refine JE_seq ?_
      refine JC_seq ?_
      refine JC_region ?_
      -- stop: op  0 t201 := (load 24 t5)   172
      have hgy : gs (xs.set k y) = (gs xs).set k (shortG xs[k].g ((bn : Int).tmod 4)) := by rw [gs, gs, List.map_set, hy]
      have hgk : (gs xs)[k]'(by omega) = xs[k].g := by simp [gs]
      have hyl : (xs.set k y).length = 0 + xs.length := by simp
      have hf1 := fault_less c1 k
      rw [← hg1] at hf1
      have hf2 := fault_short c1 (j := k) (by omega) hd4.1
      rw [hgk, ← hgy] at hf2
      have i4 := srvN_less (k := x.h.lanes.toNat) (j := k) V.gr (by omega)
      rw [← hg1, hN] at i4
      have i5 := srvN_short (k := x.h.lanes.toNat) (j := k) (g := shortG xs[k].g ((bn : Int).tmod 4)) V.gr (by omega) (shortG_ok hv hd4.1) (by rw [hgk]; rfl) (by rw [hgk]; unfold shortG; simp only; omega)
      rw [← hgy, hN] at i5
      have hs4 := fun c => served_l x la c ys1 hf1
      have hs5 := fun ad c => served_l x ad c (xs.set k y) hf2
      simp only [← hl1'] at hs4
      simp only [hyl] at hs5
      refine JL_slice (enc := encG) (v := .slice (some ⟨pb, 0, none⟩) (0 + xs.length) pc) (xs.set k y) noFp rfl hyl.symm ?_
      rintro _ _ hxv
      cases hxv
      refine JL_know (R' := KAnd (KGs la lc ys1) (KAnd (KGs (some ⟨pb, 0, none⟩) pc (xs.set k y)) _)) (fun w h => ⟨⟨by have hq := Knows.know (F := KSl la (0 + k + (xs.length - (k + 1))) lc encG ys1) w h; rw [hl1'] at hq; exact hq, fun z hz => (Knows.know (F := KFt xs) w h) z (hm1 z hz)⟩, ⟨by have hq := Knows.know (F := KSl (some ⟨pb, 0, none⟩) (0 + xs.length) pc encG (xs.set k y)) w h; rw [← hyl] at hq; exact hq, fun z hz => ?_⟩, h⟩) ?_
      · have hK0 := Knows.know (F := KFt xs) w h
        rcases List.mem_or_eq_of_mem_set hz with hz | rfl
        · exact hK0 z hz
        · rw [hy]; exact hK0 xs[k] (List.getElem_mem hk)
      refine JL_dt rfl (det_loadKA rfl Try.isAgg24 Try.sizeOf24 rfl rfl) ?_
      refine JL_pd rfl (det_move rfl) ?_
      -- stop: op  2 t203 := (call (Call (value f36) (t201 t202) (24 25)))   <0 1>   172
      refine JL_step rfl rfl rfl (jo_callv rfl rfl Try.call36 rfl (hs4 lc)) fun _ => ?_
      refine JL_pd rfl (det_move rfl) ?_
      refine JL_pd rfl (det_extract rfl rfl) ?_
      refine JL_pd rfl (det_extract rfl rfl) ?_
      refine JL_pd rfl (det_assign rfl) ?_
      refine JL_pd rfl (det_assign rfl) ?_
      refine JL_nil ?_
      refine JE_seq ?_
      refine JC_seq ?_
      refine JC_region ?_
      refine JL_dt rfl (det_loadKA rfl Try.isAgg24 Try.sizeOf24 rfl rfl) ?_
      refine JL_pd rfl (det_move rfl) ?_
      -- stop: op  2 t209 := (call (Call (value f36) (t207 t208) (24 25)))   <0 1>   173
      refine JL_step rfl rfl rfl (jo_callv rfl rfl Try.call36 rfl (hs5 (some ⟨pb, 0, none⟩) pc)) fun _ => ?_
      refine JL_pd rfl (det_move rfl) ?_
      refine JL_pd rfl (det_extract rfl rfl) ?_
      refine JL_pd rfl (det_extract rfl rfl) ?_
      refine JL_pd rfl (det_assign rfl) ?_
      refine JL_pd rfl (det_assign rfl) ?_
      refine JL_nil ?_
      refine JE_seq ?_
      refine JC_seq ?_
      refine JC_region ?_
      refine JL_pd rfl (det_move rfl) ?_
      refine JL_pd rfl (det_move rfl) ?_
      -- stop: guard 1
      generalize srvN x.h.lanes.toNat (gs ys1) = N4 at i4 ⊢
      generalize srvN x.h.lanes.toNat (gs (xs.set k y)) = N5 at i5 ⊢
      refine JL_is (d0 := 213) true rfl (by (first | rfl | exact decide_eq_true (by omega))) (fun h2 => ?_)
      refine JL_guard rfl rfl h2 ?_
      refine JL_pd rfl (det_move rfl) ?_
      refine JL_pd rfl (det_pick_t rfl h2 rfl) ?_
      refine JL_pd rfl (det_move rfl) ?_
      refine JL_is (d0 := 216) true rfl (by (first | rfl | exact decide_eq_true (by omega))) (fun h3 => ?_)
      refine JL_guard rfl rfl h3 ?_
      refine JL_pd rfl (det_move rfl) ?_
      refine JL_guard rfl rfl h3 ?_
      refine JL_pd rfl (det_move rfl) ?_
      refine JL_guard rfl rfl h3 ?_
      refine JL_pd rfl (det_leq rfl rfl) ?_
      refine JL_pd rfl (det_pick_t rfl h3 rfl) ?_
      refine JL_pd rfl (det_move rfl) ?_
      refine JL_is (d0 := 221) true rfl (by (first | rfl | exact decide_eq_true (by omega))) (fun h4 => ?_)
      refine JL_guard rfl rfl h4 ?_
      refine JL_pd rfl (det_move rfl) ?_
      refine JL_guard rfl rfl h4 ?_
      refine JL_pd rfl (det_move rfl) ?_
      refine JL_guard rfl rfl h4 ?_
      refine JL_pd rfl (det_sub rfl rfl ⟨by omega, by omega⟩) ?_
      refine JL_guard rfl rfl h4 ?_
      refine JL_pd rfl (det_geq rfl rfl) ?_
      refine JL_pd rfl (det_pick_t rfl h4 rfl) ?_
      refine JL_pd rfl (det_move rfl) ?_
      refine JL_is (d0 := 227) true rfl (by (first | rfl | exact decide_eq_true (by omega))) (fun h5 => ?_)
      refine JL_guard rfl rfl h5 ?_
      refine JL_pd rfl (det_move rfl) ?_
      refine JL_guard rfl rfl h5 ?_
      refine JL_pd rfl (det_move rfl) ?_
      refine JL_guard rfl rfl h5 ?_
      refine JL_pd rfl (det_geq rfl rfl) ?_
      refine JL_pd rfl (det_pick_t rfl h5 rfl) ?_
      refine JL_pd rfl (det_move rfl) ?_
      refine JL_is (d0 := 232) true rfl (by (first | rfl | exact decide_eq_true (by omega))) (fun h6 => ?_)
      refine JL_guard rfl rfl h6 ?_
      refine JL_step rfl rfl rfl (jo_callv rfl rfl Try.call17 rfl (awake_j)) fun _ => ?_
      refine JL_pd rfl (det_pick_t rfl h6 rfl) ?_
      refine JL_pd rfl (det_assign rfl) ?_
      refine JL_nil ?_
      refine JE_seq ?_
      refine JC_ret ?_
      refine JE_out (.inl rfl) () (results1 Try.results7 (res_tmp rfl)) ?_ (List.Perm.refl _) (fun _ _ => trivial)
      rfl
end Go.Proofs.Ytkmaafnbefpdjaa
