/- The statements about bill: BillTakes. -/
import Derived.Test.YtjbmkdbgobmclaaQA
set_option linter.unusedSimpArgs false
set_option linter.unusedVariables false
namespace Go.Proofs.Ytjbmkdbgobmclaa
open Go.RowKit Go.Shelf

theorem takenE_read {l : List Ms} {fr to_ : Int} (h : readE l ≠ 0) : takenE l fr to_ = readE l := if_pos h
set_option maxRecDepth 100000 in
set_option maxHeartbeats 2000000 in
theorem BillTakes_j (a : Option Addr) (c : Nat) (ls : List Ms) (fr to_ : Int) : Cv Try.prog 4 [.slice a ls.length c, I fr, I to_] (KSl a ls.length c encM ls) (.bool true) := by
  refine Cx_of Try.func4 rfl Try.ntmps4 rfl fun w0 M0 => ?_
  refine JC_seq ?_
  refine JC_region ?_
  refine JL_pd rfl (det_assign rfl) ?_
  refine JL_nil ?_
  refine JE_seq ?_
  refine JC_seq ?_
  refine JC_seq ?_
  refine JC_region ?_
  refine JL_pd rfl (det_move rfl) ?_
  refine JL_pd rfl (det_len rfl Try.runUnderlying31) ?_
  refine JL_pd rfl (det_gtr rfl rfl) ?_
  refine JL_nil ?_
  refine JE_seq ?_
  -- stop: cond
  refine JC_if rfl (fun h1 => ?_) (fun h1 => ?_)
  · refine JC_seq ?_
    refine JC_region ?_
    refine JL_step rfl rfl rfl (jo_callv rfl rfl Try.call16 rfl (awake_j)) fun _ => ?_
    refine JL_pd rfl (det_assign rfl) ?_
    refine JL_nil ?_
    refine JE_seq ?_
    refine JC_ret ?_
    refine JE_seq_ret ?_
    -- stop: out
    refine JE_out (.inl rfl) () (results1 Try.results4 (res_tmp rfl)) rfl (List.Perm.refl _) (fun _ _ => trivial)
  · have hl : ls.length ≤ 35 := by omega
    have hmj := lMsgs_j a c ls (by omega)
    have hfj := lostFault_j a c ls (by omega)
    refine JC_skip ?_
    refine JE_seq ?_
    refine JC_seq ?_
    refine JC_region ?_
    refine JL_pd rfl (det_move rfl) ?_
    refine JL_step rfl rfl rfl (jo_call rfl rfl Try.call22 rfl (hmj)) fun x21 => ?_
    -- stop: op  2 t22 := (call (Call (value f21) (t21) (33)))   <1 1>   152
    by_cases hE : readE ls = 0
    · rw [hE] at hfj
      obtain ⟨hmf, hwk⟩ := mfE_read hE
      obtain ⟨_, hV⟩ := mfE_of hmf
      have hfit := (read_of hE).2.2
      have hlost := lost_eq hV hfit
      have hlj := Lost_jo x21.1 x21.2 ls (by omega) hE
      rw [hlost] at hlj
      have hrl := rLost_j a c ls (by omega) hV
      have h60 := lastM_60 hV
      have hge := lastM_0 ls
      have hLN := lastN_M hV
      have hLj := Last_j a c ls (by omega)
      generalize hR : lostR ls = R at hlj hrl
      refine JL_step rfl rfl rfl (jo_call rfl rfl Try.call21 rfl (hlj)) fun xl => ?_
      refine JL_pd rfl (det_move rfl) ?_
      refine JL_pd rfl (det_extract rfl rfl) ?_
      refine JL_pd rfl (det_extract rfl rfl) ?_
      refine JL_pd rfl (det_assign rfl) ?_
      refine JL_pd rfl (det_assign rfl) ?_
      refine JL_nil ?_
      refine JE_seq ?_
      refine JC_seq ?_
      refine JC_region ?_
      refine JL_pd rfl (det_move rfl) ?_
      refine JL_step rfl rfl rfl (jo_call rfl rfl Try.call22 rfl (hmj)) fun x27 => ?_
      refine JL_pd rfl (det_move rfl) ?_
      refine JL_pd rfl (det_move rfl) ?_
      -- stop: op  4 t30 := (call (Call (value f23) (t27 t28 t29) (33 3 3)))   <1 2 3 1>   153
      by_cases hT : takenE ls fr to_ = 0
      · obtain ⟨_, t1, t2, t3⟩ := takenE_of hT
        rw [hLN] at t3
        have htj := Taken_jo x27.1 x27.2 ls (by omega) fr to_ hT
        obtain ⟨hw1, hw2⟩ := wk_taken hV hwk t1 t2 t3
        rw [← hw1, ← hw2] at htj
        have hcl := (wk_closed hV hwk).1
        have hbd := hcl.lo to_.toNat (fr - 1).toNat (by omega) (by omega)
        have hbd2 := hcl.up to_.toNat (fr - 1).toNat (by omega) (by omega)
        have hwj := Work_j a c ls (by omega) hV
        have htk := fun b0 : Nat => rTaken_j b0 (wkB ls) fr to_ t1 t2 (by omega) ⟨hbd, by omega⟩
        have hin := In_j fr 1 to_
        rw [inI_iff.2 ⟨t1, t2⟩] at hin
        refine JL_step rfl rfl rfl (jo_callv rfl rfl Try.call23 rfl (htj)) fun _ => ?_
        refine JL_pd rfl (det_move rfl) ?_
        refine JL_pd rfl (det_extract rfl rfl) ?_
        refine JL_pd rfl (det_extract rfl rfl) ?_
        refine JL_step rfl rfl rfl (jo_alloc0 Try.zeroValue36 rfl) fun b9 => ?_
        refine JL_step0 rfl rfl (jo_store rfl rfl rfl (by first | (simp only [splice_norm]; done) | (simp only [splice_norm]; rfl) | rfl) Try.sizeOf36 rfl rfl) fun _ => ?_
        refine JL_pd rfl (det_assign rfl) ?_
        refine JL_nil ?_
        refine JE_seq ?_
        refine JC_seq ?_
        refine JC_region ?_
        refine JL_pd rfl (det_move rfl) ?_
        refine JL_step rfl rfl rfl (jo_callv rfl rfl Try.call24 rfl (hfj)) fun _ => ?_
        refine JL_pd rfl (det_assign rfl) ?_
        refine JL_nil ?_
        refine JE_seq ?_
        refine JC_seq ?_
        refine JC_seq ?_
        refine JC_region ?_
        refine JL_pd rfl (det_move rfl) ?_
        refine JL_pd rfl (det_neq rfl rfl) ?_
        refine JL_nil ?_
        refine JE_seq ?_
        -- stop: cond
        refine JC_ifn rfl (fun h2 => ?_) (fun h2 => ?_)
        · exact absurd rfl h2
        refine JC_skip ?_
        refine JE_seq ?_
        refine JC_seq ?_
        refine JC_seq ?_
        refine JC_region ?_
        refine JL_pd rfl (det_move rfl) ?_
        refine JL_pd rfl (det_neq rfl rfl) ?_
        refine JL_pd rfl (det_move rfl) ?_
        -- stop: guard 2
        refine JL_is (d0 := 60) false rfl (by rfl) (fun g1 => ?_)
        refine JL_guard rfl rfl g1 ?_
        refine JL_pd rfl (det_move rfl) ?_
        refine JL_guard rfl rfl g1 ?_
        refine JL_pd rfl (det_move rfl) ?_
        refine JL_guard rfl rfl g1 ?_
        refine JL_step rfl rfl rfl (jo_call rfl rfl Try.call26 rfl (hrl)) fun x63 => ?_
        refine JL_guard rfl rfl g1 ?_
        -- stop: op  6 t64 := (call (Call (value f25) (t61 t63) (22 22)))   <3 5 5 2>   158
        refine JL_step rfl rfl rfl (jo_callv rfl rfl Try.call25 rfl (ints_j xl.1 xl.2 R x63.1 x63.2 R)) fun _ => ?_
        refine JL_guard rfl rfl g1 ?_
        refine JL_pd rfl (det_not rfl) ?_
        refine JL_pd rfl (det_pick_f rfl g1 rfl) ?_
        refine JL_nil ?_
        refine JE_seq ?_
        -- stop: cond
        refine JC_cond rfl (fun h3 => ?_) (fun h3 => ?_)
        · exact absurd h3 (by rw [decide_eq_true rfl]; decide)
        refine JC_skip ?_
        refine JE_seq ?_
        refine JC_seq ?_
        refine JC_seq ?_
        refine JC_region ?_
        refine JL_pd rfl (det_move rfl) ?_
        refine JL_pd rfl (det_move rfl) ?_
        refine JL_step rfl rfl rfl (jo_callv rfl rfl Try.call27 rfl (hin)) fun _ => ?_
        refine JL_pd rfl (det_not rfl) ?_
        refine JL_pd rfl (det_move rfl) ?_
        -- stop: guard 4
        refine JL_is (d0 := 71) false rfl (by rfl) (fun g2 => ?_)
        refine JL_guard rfl rfl g2 ?_
        refine JL_pd rfl (det_move rfl) ?_
        refine JL_guard rfl rfl g2 ?_
        refine JL_pd rfl (det_move rfl) ?_
        refine JL_guard rfl rfl g2 ?_
        refine JL_step rfl rfl rfl (jo_callv rfl rfl Try.call28 rfl (hLj)) fun _ => ?_
        refine JL_guard rfl rfl g2 ?_
        refine JL_pd rfl (det_gtr rfl rfl) ?_
        refine JL_pd rfl (det_pick_f rfl g2 rfl) ?_
        refine JL_nil ?_
        refine JE_seq ?_
        -- stop: cond
        refine JC_if rfl (fun h4 => ?_) (fun h4 => ?_)
        · exact absurd h4 (by omega)
        refine JC_skip ?_
        refine JE_seq ?_
        refine JC_seq ?_
        refine JC_region ?_
        refine JL_pd rfl (det_move rfl) ?_
        refine JL_step rfl rfl rfl (jo_call rfl rfl Try.call29 rfl (hwj)) fun x89 => ?_
        refine JL_pd rfl (det_move rfl) ?_
        refine JL_pd rfl (det_extract rfl rfl) ?_
        refine JL_pd rfl (det_extract rfl rfl) ?_
        refine JL_pd rfl (det_assign rfl) ?_
        refine JL_pd rfl (det_assign rfl) ?_
        refine JL_nil ?_
        refine JE_seq ?_
        refine JC_seq ?_
        refine JC_region ?_
        refine JL_pd rfl (det_move rfl) ?_
        refine JL_pd rfl (det_move rfl) ?_
        refine JL_pd rfl (det_move rfl) ?_
        -- stop: op  3 t95 := (call (Call (value f30) (t92 t93 t94) (44 3 3)))   <0 1 2>   165
        refine JL_step rfl rfl rfl (jo_callv rfl rfl Try.call30 rfl (htk x89)) fun _ => ?_
        refine JL_step rfl rfl rfl (jo_alloc0 Try.zeroValue47 rfl) fun b14 => ?_
        refine JL_step0 rfl rfl (jo_store rfl rfl rfl (by first | (simp only [splice_norm]; done) | (simp only [splice_norm]; rfl) | rfl) Try.sizeOf47 rfl rfl) fun _ => ?_
        refine JL_nil ?_
        refine JE_seq ?_
        refine JC_seq ?_
        refine JC_region ?_
        refine JL_pd rfl (det_move rfl) ?_
        refine JL_pd rfl (det_eql rfl rfl) ?_
        refine JL_pd rfl (det_move rfl) ?_
        -- stop: guard 2
        skip
        refine JL_is (d0 := 98) true rfl (by first | rfl | exact decide_eq_true ⟨rfl, rfl⟩) (fun g1 => ?_)
        refine JL_guard rfl rfl g1 ?_
        refine JL_dt rfl (det_loadKA rfl Try.isAgg36 Try.sizeOf36 rfl rfl) ?_
        refine JL_guard rfl rfl g1 ?_
        refine JL_pd rfl (det_fieldAddr rfl fo_47_0) ?_
        refine JL_guard rfl rfl g1 ?_
        refine JL_dt rfl (det_loadK rfl Try.isAgg3 rfl) ?_
        refine JL_guard rfl rfl g1 ?_
        refine JL_pd rfl (det_fieldAddr rfl fo_47_1) ?_
        refine JL_guard rfl rfl g1 ?_
        refine JL_dt rfl (det_loadK rfl Try.isAgg3 rfl) ?_
        refine JL_guard rfl rfl g1 ?_
        refine JL_pd rfl (det_build rfl (bld_36_0_1 _ _)) ?_
        refine JL_guard rfl rfl g1 ?_
        refine JL_pd rfl (det_eqlA rfl rfl egt_36 (eqa_36 _ _ _ _)) ?_
        refine JL_pd rfl (det_pick_t rfl g1 rfl) ?_
        refine JL_pd rfl (det_move rfl) ?_
        refine JL_is (d0 := 107) true rfl (by first | rfl | exact decide_eq_true ⟨rfl, rfl⟩) (fun g2 => ?_)
        refine JL_guard rfl rfl g2 ?_
        refine JL_step rfl rfl rfl (jo_callv rfl rfl Try.call16 rfl (awake_j)) fun _ => ?_
        refine JL_pd rfl (det_pick_t rfl g2 rfl) ?_
        refine JL_pd rfl (det_assign rfl) ?_
        refine JL_nil ?_
        refine JE_seq ?_
        refine JC_ret ?_
        -- stop: out
        refine JE_out (.inl rfl) () (results1 Try.results4 (res_tmp rfl)) rfl (List.Perm.refl _) (fun _ _ => trivial)
      · have hne : takenE ls fr to_ = 2 := by
          unfold takenE at hT ⊢
          rw [if_neg (by rw [hE]; decide)] at hT ⊢
          split
          · rfl
          · rename_i h; rw [if_neg h] at hT; exact absurd rfl hT
        have htj := Taken_je x27.1 x27.2 ls (by omega) fr to_ hT
        rw [hne] at htj
        refine JL_step rfl rfl rfl (jo_callv rfl rfl Try.call23 rfl (htj)) fun _ => ?_
        refine JL_pd rfl (det_move rfl) ?_
        refine JL_pd rfl (det_extract rfl rfl) ?_
        refine JL_pd rfl (det_extract rfl rfl) ?_
        refine JL_step rfl rfl rfl (jo_alloc0 Try.zeroValue36 rfl) fun b9 => ?_
        refine JL_step0 rfl rfl (jo_store rfl rfl rfl (by first | (simp only [splice_norm]; done) | (simp only [splice_norm]; rfl) | rfl) Try.sizeOf36 rfl rfl) fun _ => ?_
        refine JL_pd rfl (det_assign rfl) ?_
        refine JL_nil ?_
        refine JE_seq ?_
        refine JC_seq ?_
        refine JC_region ?_
        refine JL_pd rfl (det_move rfl) ?_
        refine JL_step rfl rfl rfl (jo_callv rfl rfl Try.call24 rfl (hfj)) fun _ => ?_
        refine JL_pd rfl (det_assign rfl) ?_
        refine JL_nil ?_
        refine JE_seq ?_
        refine JC_seq ?_
        refine JC_seq ?_
        refine JC_region ?_
        refine JL_pd rfl (det_move rfl) ?_
        refine JL_pd rfl (det_neq rfl rfl) ?_
        refine JL_nil ?_
        refine JE_seq ?_
        -- stop: cond
        refine JC_ifn rfl (fun h2 => ?_) (fun h2 => ?_)
        · exact absurd rfl h2
        refine JC_skip ?_
        refine JE_seq ?_
        refine JC_seq ?_
        refine JC_seq ?_
        refine JC_region ?_
        refine JL_pd rfl (det_move rfl) ?_
        refine JL_pd rfl (det_neq rfl rfl) ?_
        refine JL_pd rfl (det_move rfl) ?_
        -- stop: guard 2
        refine JL_is (d0 := 60) false rfl (by rfl) (fun g1 => ?_)
        refine JL_guard rfl rfl g1 ?_
        refine JL_pd rfl (det_move rfl) ?_
        refine JL_guard rfl rfl g1 ?_
        refine JL_pd rfl (det_move rfl) ?_
        refine JL_guard rfl rfl g1 ?_
        refine JL_step rfl rfl rfl (jo_call rfl rfl Try.call26 rfl (hrl)) fun x63 => ?_
        refine JL_guard rfl rfl g1 ?_
        -- stop: op  6 t64 := (call (Call (value f25) (t61 t63) (22 22)))   <3 5 5 2>   158
        refine JL_step rfl rfl rfl (jo_callv rfl rfl Try.call25 rfl (ints_j xl.1 xl.2 R x63.1 x63.2 R)) fun _ => ?_
        refine JL_guard rfl rfl g1 ?_
        refine JL_pd rfl (det_not rfl) ?_
        refine JL_pd rfl (det_pick_f rfl g1 rfl) ?_
        refine JL_nil ?_
        refine JE_seq ?_
        -- stop: cond
        refine JC_cond rfl (fun h3 => ?_) (fun h3 => ?_)
        · exact absurd h3 (by rw [decide_eq_true rfl]; decide)
        refine JC_skip ?_
        refine JE_seq ?_
        refine JC_seq ?_
        refine JC_seq ?_
        refine JC_region ?_
        refine JL_pd rfl (det_move rfl) ?_
        refine JL_pd rfl (det_move rfl) ?_
        refine JL_step rfl rfl rfl (jo_callv rfl rfl Try.call27 rfl (In_j fr 1 to_)) fun _ => ?_
        refine JL_pd rfl (det_not rfl) ?_
        refine JL_pd rfl (det_move rfl) ?_
        -- stop: guard 4
        by_cases hw : inI fr 1 to_ = true
        · have hto : lastM ls < to_ := by
            refine Int.not_le.1 fun h => ?_
            unfold takenE at hne
            rw [if_neg (by rw [hE]; decide), if_neg (by rintro (e | e); (rw [hw] at e; cases e); (rw [hLN] at e; omega))] at hne
            cases hne
          refine JL_is (d0 := 71) false rfl (by rw [hw]; rfl) (fun g2 => ?_)
          refine JL_guard rfl rfl g2 ?_
          refine JL_pd rfl (det_move rfl) ?_
          refine JL_guard rfl rfl g2 ?_
          refine JL_pd rfl (det_move rfl) ?_
          refine JL_guard rfl rfl g2 ?_
          refine JL_step rfl rfl rfl (jo_callv rfl rfl Try.call28 rfl (hLj)) fun _ => ?_
          refine JL_guard rfl rfl g2 ?_
          refine JL_pd rfl (det_gtr rfl rfl) ?_
          refine JL_pd rfl (det_pick_f rfl g2 rfl) ?_
          refine JL_nil ?_
          refine JE_seq ?_
          -- stop: cond
          refine JC_if rfl (fun h4 => ?_) (fun h4 => ?_)
          · refine JC_seq ?_
            refine JC_region ?_
            refine JL_pd rfl (det_move rfl) ?_
            refine JL_pd rfl (det_eql rfl rfl) ?_
            refine JL_pd rfl (det_move rfl) ?_
            -- stop: guard 2
            skip
            refine JL_is (d0 := 79) true rfl (by first | rfl | exact decide_eq_true ⟨rfl, rfl⟩) (fun g1 => ?_)
            refine JL_guard rfl rfl g1 ?_
            refine JL_dt rfl (det_loadKA rfl Try.isAgg36 Try.sizeOf36 rfl rfl) ?_
            refine JL_guard rfl rfl g1 ?_
            refine JL_pd rfl (det_build rfl (bld_36)) ?_
            refine JL_guard rfl rfl g1 ?_
            refine JL_pd rfl (det_eqlA rfl rfl egt_36 (eqa_36 _ _ _ _)) ?_
            refine JL_pd rfl (det_pick_t rfl g1 rfl) ?_
            refine JL_pd rfl (det_move rfl) ?_
            refine JL_is (d0 := 84) true rfl (by first | rfl | exact decide_eq_true ⟨rfl, rfl⟩) (fun g2 => ?_)
            refine JL_guard rfl rfl g2 ?_
            refine JL_step rfl rfl rfl (jo_callv rfl rfl Try.call16 rfl (awake_j)) fun _ => ?_
            refine JL_pd rfl (det_pick_t rfl g2 rfl) ?_
            refine JL_pd rfl (det_assign rfl) ?_
            refine JL_nil ?_
            refine JE_seq ?_
            refine JC_ret ?_
            refine JE_seq_ret ?_
            -- stop: out
            refine JE_out (.inl rfl) () (results1 Try.results4 (res_tmp rfl)) rfl (List.Perm.refl _) (fun _ _ => trivial)
          · exact absurd hto h4
        · rw [Bool.not_eq_true] at hw
          refine JL_is (d0 := 71) true rfl (by rw [hw]; rfl) (fun g2 => ?_)
          refine JL_skip rfl rfl g2 rfl ?_
          refine JL_skip rfl rfl g2 rfl ?_
          refine JL_skip rfl rfl g2 rfl ?_
          refine JL_skip rfl rfl g2 rfl ?_
          refine JL_pd rfl (det_pick_t rfl g2 rfl) ?_
          refine JL_nil ?_
          refine JE_seq ?_
          -- stop: cond
          refine JC_cond rfl (fun h4 => ?_) (fun h4 => ?_)
          · refine JC_seq ?_
            refine JC_region ?_
            refine JL_pd rfl (det_move rfl) ?_
            refine JL_pd rfl (det_eql rfl rfl) ?_
            refine JL_pd rfl (det_move rfl) ?_
            -- stop: guard 2
            skip
            refine JL_is (d0 := 79) true rfl (by first | rfl | exact decide_eq_true ⟨rfl, rfl⟩) (fun g1 => ?_)
            refine JL_guard rfl rfl g1 ?_
            refine JL_dt rfl (det_loadKA rfl Try.isAgg36 Try.sizeOf36 rfl rfl) ?_
            refine JL_guard rfl rfl g1 ?_
            refine JL_pd rfl (det_build rfl (bld_36)) ?_
            refine JL_guard rfl rfl g1 ?_
            refine JL_pd rfl (det_eqlA rfl rfl egt_36 (eqa_36 _ _ _ _)) ?_
            refine JL_pd rfl (det_pick_t rfl g1 rfl) ?_
            refine JL_pd rfl (det_move rfl) ?_
            refine JL_is (d0 := 84) true rfl (by first | rfl | exact decide_eq_true ⟨rfl, rfl⟩) (fun g2 => ?_)
            refine JL_guard rfl rfl g2 ?_
            refine JL_step rfl rfl rfl (jo_callv rfl rfl Try.call16 rfl (awake_j)) fun _ => ?_
            refine JL_pd rfl (det_pick_t rfl g2 rfl) ?_
            refine JL_pd rfl (det_assign rfl) ?_
            refine JL_nil ?_
            refine JE_seq ?_
            refine JC_ret ?_
            refine JE_seq_ret ?_
            -- stop: out
            refine JE_out (.inl rfl) () (results1 Try.results4 (res_tmp rfl)) rfl (List.Perm.refl _) (fun _ _ => trivial)
          · cases h4
    · have hlj := Lost_je x21.1 x21.2 ls (by omega) hE
      have htj := fun a2 c2 => Taken_je a2 c2 ls (by omega) fr to_ (by rw [takenE_read hE]; exact hE)
      rw [takenE_read hE] at htj
      refine JL_step rfl rfl rfl (jo_callv rfl rfl Try.call21 rfl (hlj)) fun _ => ?_
      refine JL_pd rfl (det_move rfl) ?_
      refine JL_pd rfl (det_extract rfl rfl) ?_
      refine JL_pd rfl (det_extract rfl rfl) ?_
      refine JL_pd rfl (det_assign rfl) ?_
      refine JL_pd rfl (det_assign rfl) ?_
      refine JL_nil ?_
      refine JE_seq ?_
      refine JC_seq ?_
      refine JC_region ?_
      refine JL_pd rfl (det_move rfl) ?_
      refine JL_step rfl rfl rfl (jo_call rfl rfl Try.call22 rfl (hmj)) fun x27 => ?_
      refine JL_pd rfl (det_move rfl) ?_
      refine JL_pd rfl (det_move rfl) ?_
      -- stop: op  4 t30 := (call (Call (value f23) (t27 t28 t29) (33 3 3)))   <1 2 3 1>   153
      refine JL_step rfl rfl rfl (jo_callv rfl rfl Try.call23 rfl (htj x27.1 x27.2)) fun _ => ?_
      refine JL_pd rfl (det_move rfl) ?_
      refine JL_pd rfl (det_extract rfl rfl) ?_
      refine JL_pd rfl (det_extract rfl rfl) ?_
      refine JL_step rfl rfl rfl (jo_alloc0 Try.zeroValue36 rfl) fun b9 => ?_
      refine JL_step0 rfl rfl (jo_store rfl rfl rfl (by first | (simp only [splice_norm]; done) | (simp only [splice_norm]; rfl) | rfl) Try.sizeOf36 rfl rfl) fun _ => ?_
      refine JL_pd rfl (det_assign rfl) ?_
      refine JL_nil ?_
      refine JE_seq ?_
      refine JC_seq ?_
      refine JC_region ?_
      refine JL_pd rfl (det_move rfl) ?_
      refine JL_step rfl rfl rfl (jo_callv rfl rfl Try.call24 rfl (hfj)) fun _ => ?_
      refine JL_pd rfl (det_assign rfl) ?_
      refine JL_nil ?_
      refine JE_seq ?_
      refine JC_seq ?_
      refine JC_seq ?_
      refine JC_region ?_
      refine JL_pd rfl (det_move rfl) ?_
      refine JL_pd rfl (det_neq rfl rfl) ?_
      refine JL_nil ?_
      refine JE_seq ?_
      -- stop: cond
      generalize hG : readE ls = E at hE
      refine JC_ifn rfl (fun h2 => ?_) (fun h2 => ?_)
      · refine JC_seq ?_
        refine JC_region ?_
        refine JL_pd rfl (det_move rfl) ?_
        refine JL_pd rfl (det_move rfl) ?_
        refine JL_pd rfl (det_eql rfl rfl) ?_
        refine JL_pd rfl (det_move rfl) ?_
        -- stop: guard 3
        skip
        refine JL_is (d0 := 40) true rfl (by first | exact decide_eq_true rfl | rfl | exact decide_eq_true ⟨rfl, rfl⟩) (fun g1 => ?_)
        refine JL_guard rfl rfl g1 ?_
        refine JL_pd rfl (det_move rfl) ?_
        refine JL_guard rfl rfl g1 ?_
        refine JL_pd rfl (det_move rfl) ?_
        refine JL_guard rfl rfl g1 ?_
        refine JL_pd rfl (det_eql rfl rfl) ?_
        refine JL_pd rfl (det_pick_t rfl g1 rfl) ?_
        refine JL_pd rfl (det_move rfl) ?_
        refine JL_is (d0 := 45) true rfl (by first | exact decide_eq_true rfl | rfl | exact decide_eq_true ⟨rfl, rfl⟩) (fun g2 => ?_)
        refine JL_guard rfl rfl g2 ?_
        refine JL_pd rfl (det_move rfl) ?_
        refine JL_guard rfl rfl g2 ?_
        refine JL_pd rfl (det_len rfl Try.runUnderlying22) ?_
        refine JL_guard rfl rfl g2 ?_
        refine JL_pd rfl (det_eql rfl rfl) ?_
        refine JL_pd rfl (det_pick_t rfl g2 rfl) ?_
        refine JL_pd rfl (det_move rfl) ?_
        refine JL_is (d0 := 50) true rfl (by first | exact decide_eq_true rfl | rfl | exact decide_eq_true ⟨rfl, rfl⟩) (fun g3 => ?_)
        refine JL_guard rfl rfl g3 ?_
        refine JL_dt rfl (det_loadKA rfl Try.isAgg36 Try.sizeOf36 rfl rfl) ?_
        refine JL_guard rfl rfl g3 ?_
        refine JL_pd rfl (det_build rfl (bld_36)) ?_
        refine JL_guard rfl rfl g3 ?_
        refine JL_pd rfl (det_eqlA rfl rfl egt_36 (eqa_36 _ _ _ _)) ?_
        refine JL_pd rfl (det_pick_t rfl g3 rfl) ?_
        refine JL_pd rfl (det_move rfl) ?_
        refine JL_is (d0 := 55) true rfl (by first | exact decide_eq_true rfl | rfl | exact decide_eq_true ⟨rfl, rfl⟩) (fun g4 => ?_)
        refine JL_guard rfl rfl g4 ?_
        refine JL_step rfl rfl rfl (jo_callv rfl rfl Try.call16 rfl (awake_j)) fun _ => ?_
        refine JL_pd rfl (det_pick_t rfl g4 rfl) ?_
        refine JL_pd rfl (det_assign rfl) ?_
        refine JL_nil ?_
        refine JE_seq ?_
        refine JC_ret ?_
        refine JE_seq_ret ?_
        -- stop: out
        refine JE_out (.inl rfl) () (results1 Try.results4 (res_tmp rfl)) rfl (List.Perm.refl _) (fun _ _ => trivial)
      · exact absurd h2 hE
end Go.Proofs.Ytjbmkdbgobmclaa
