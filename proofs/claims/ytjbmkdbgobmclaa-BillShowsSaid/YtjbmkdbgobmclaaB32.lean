/- The statements about bill: BillShows. -/
import Derived.Test.YtjbmkdbgobmclaaQB
set_option linter.unusedSimpArgs false
set_option linter.unusedVariables false
namespace Go.Proofs.Ytjbmkdbgobmclaa
open Go.RowKit Go.Shelf

set_option maxRecDepth 100000 in
set_option maxHeartbeats 2000000 in
theorem BillShows_j (a : Option Addr) (c : Nat) (ls : List Ms) (sa : Option Addr) (sc : Nat) (s : List Int) : Cv Try.prog 14 [.slice a ls.length c, .slice sa s.length sc] (KAnd (KSl a ls.length c encM ls) (KSl sa s.length sc encI s)) (.bool true) := by
  refine Cx_of Try.func14 rfl Try.ntmps14 rfl fun w0 M0 => ?_
  refine JC_seq ?_
  refine JC_region ?_
  refine JL_pd rfl (det_assign rfl) ?_
  refine JL_nil ?_
  refine JE_seq ?_
  refine JC_seq ?_
  refine JC_seq ?_
  refine JC_region ?_
  refine JL_pd rfl (det_move rfl) ?_
  refine JL_pd rfl (det_len rfl Try.runUnderlying31) ?_
  refine JL_pd rfl (det_gtr rfl rfl) ?_
  refine JL_pd rfl (det_move rfl) ?_
  -- stop: guard 3
  by_cases h1 : 35 < ls.length
  · refine JL_is (d0 := 12) true rfl (by exact decide_eq_true (by omega)) (fun g1 => ?_)
    refine JL_skip rfl rfl g1 rfl ?_
    refine JL_skip rfl rfl g1 rfl ?_
    refine JL_skip rfl rfl g1 rfl ?_
    refine JL_pd rfl (det_pick_t rfl g1 rfl) ?_
    refine JL_nil ?_
    refine JE_seq ?_
    refine JC_condT rfl rfl ?_
    refine JC_seq ?_
    refine JC_region ?_
    refine JL_step rfl rfl rfl (jo_callv rfl rfl Try.call16 rfl (awake_j)) fun _ => ?_
    refine JL_pd rfl (det_assign rfl) ?_
    refine JL_nil ?_
    refine JE_seq ?_
    refine JC_ret ?_
    refine JE_seq_ret ?_
    -- stop: out
    refine JE_out (.inl rfl) () (results1 Try.results14 (res_tmp rfl)) rfl (List.Perm.refl _) (fun _ _ => trivial)
  · skip
    refine JL_is (d0 := 12) false rfl (by exact decide_eq_false (by omega)) (fun g1 => ?_)
    refine JL_guard rfl rfl g1 ?_
    refine JL_pd rfl (det_move rfl) ?_
    refine JL_guard rfl rfl g1 ?_
    refine JL_pd rfl (det_len rfl Try.runUnderlying22) ?_
    refine JL_guard rfl rfl g1 ?_
    refine JL_pd rfl (det_gtr rfl rfl) ?_
    refine JL_pd rfl (det_pick_f rfl g1 rfl) ?_
    refine JL_nil ?_
    refine JE_seq ?_
    -- stop: cond
    refine JC_if rfl (fun h2 => ?_) (fun h2 => ?_)
    · refine JC_seq ?_
      refine JC_region ?_
      refine JL_step rfl rfl rfl (jo_callv rfl rfl Try.call16 rfl (awake_j)) fun _ => ?_
      refine JL_pd rfl (det_assign rfl) ?_
      refine JL_nil ?_
      refine JE_seq ?_
      refine JC_ret ?_
      refine JE_seq_ret ?_
      -- stop: out
      refine JE_out (.inl rfl) () (results1 Try.results14 (res_tmp rfl)) rfl (List.Perm.refl _) (fun _ _ => trivial)
    · have hl : ls.length ≤ 35 := by omega
      have hs : s.length ≤ 70 := by omega
      have hmj := lMsgs_j a c ls (by omega)
      have hlj := lList_j s sa sc (by omega)
      have hfj := lostFault_j a c ls (by omega)
      have hpj := fun a2 c2 sa2 sc2 => ProveSales_j a2 c2 ls sa2 sc2 s (by omega) (by omega)
      have hmf := MessagesFault_j a c ls (by omega)
      refine JC_skip ?_
      refine JE_seq ?_
      refine JC_seq ?_
      refine JC_region ?_
      refine JL_pd rfl (det_move rfl) ?_
      refine JL_step rfl rfl rfl (jo_call rfl rfl Try.call22 rfl (hmj)) fun x20 => ?_
      -- stop: op  2 t21 := (call (Call (value f48) (t20) (33)))   <1 1>   174
      by_cases hE : readE ls = 0
      · rw [hE] at hfj
        obtain ⟨hm, hwk⟩ := mfE_read hE
        obtain ⟨_, hV⟩ := mfE_of hm
        have hfit := (read_of hE).2.2
        have hsf := shows_fit hV hfit
        have hFj := Fit_j a c ls sa sc s (by omega) hV
        have hFs := fun a2 c2 => Fit_j a c ls a2 c2 (showsL (srtL ls)) (by omega) hV
        rw [(fitsB_iff hV).2 hsf] at hFs
        generalize fitsB ls s = F at hpj hFj
        refine JL_step rfl rfl rfl (jo_call rfl rfl Try.call48 rfl (Shows_jo x20.1 x20.2 ls (by omega) hE)) fun xs => ?_
        refine JL_pd rfl (det_move rfl) ?_
        refine JL_pd rfl (det_extract rfl rfl) ?_
        refine JL_pd rfl (det_extract rfl rfl) ?_
        refine JL_pd rfl (det_assign rfl) ?_
        refine JL_pd rfl (det_assign rfl) ?_
        refine JL_nil ?_
        refine JE_seq ?_
        refine JC_seq ?_
        refine JC_region ?_
        refine JL_pd rfl (det_move rfl) ?_
        refine JL_step rfl rfl rfl (jo_call rfl rfl Try.call22 rfl (hmj)) fun x25 => ?_
        refine JL_pd rfl (det_move rfl) ?_
        refine JL_step rfl rfl rfl (jo_call rfl rfl Try.call18 rfl (hlj)) fun x27 => ?_
        -- stop: op  4 t28 := (call (Call (value f50) (t25 t27) (33 22)))   <1 3 3>   175
        refine JL_step rfl rfl rfl (jo_callv rfl rfl Try.call50 rfl (hpj x25.1 x25.2 x27.1 x27.2)) fun _ => ?_
        refine JL_pd rfl (det_assign rfl) ?_
        refine JL_nil ?_
        refine JE_seq ?_
        refine JC_seq ?_
        refine JC_seq ?_
        refine JC_region ?_
        refine JL_pd rfl (det_move rfl) ?_
        refine JL_pd rfl (det_move rfl) ?_
        refine JL_step rfl rfl rfl (jo_callv rfl rfl Try.call51 rfl (hmf)) fun _ => ?_
        refine JL_pd rfl (det_eql rfl rfl) ?_
        refine JL_pd rfl (det_move rfl) ?_
        -- stop: guard 4
        refine JL_is (d0 := 33) true rfl (by exact decide_eq_true hm) (fun g2 => ?_)
        refine JL_guard rfl rfl g2 ?_
        refine JL_pd rfl (det_move rfl) ?_
        refine JL_guard rfl rfl g2 ?_
        refine JL_pd rfl (det_move rfl) ?_
        refine JL_guard rfl rfl g2 ?_
        -- stop: op  7 t36 := (call (Call (value f52) (t34 t35) (31 22)))   <5 6 4 4>   176
        refine JL_step rfl rfl rfl (jo_callv rfl rfl Try.call52 rfl (hFj)) fun _ => ?_
        refine JL_pd rfl (det_pick_t rfl g2 rfl) ?_
        refine JL_pd rfl (det_neqB rfl rfl Try.underlying4) ?_
        refine JL_nil ?_
        refine JE_seq ?_
        -- stop: cond
        refine JC_cond rfl (fun h3 => ?_) (fun h3 => ?_)
        · exact absurd h3 (by rw [decide_eq_true hm]; cases F <;> decide)
        refine JC_skip ?_
        refine JE_seq ?_
        refine JC_seq ?_
        refine JC_seq ?_
        refine JC_region ?_
        refine JL_pd rfl (det_move rfl) ?_
        refine JL_step rfl rfl rfl (jo_callv rfl rfl Try.call24 rfl (hfj)) fun _ => ?_
        refine JL_pd rfl (det_assign rfl) ?_
        refine JL_nil ?_
        refine JE_seq ?_
        refine JC_seq ?_
        refine JC_region ?_
        refine JL_pd rfl (det_move rfl) ?_
        refine JL_pd rfl (det_neq rfl rfl) ?_
        refine JL_nil ?_
        refine JE_seq ?_
        -- stop: cond
        refine JC_ifn rfl (fun h4 => ?_) (fun h4 => ?_)
        · exact absurd rfl h4
        refine JC_skip ?_
        refine JE_seq ?_
        refine JC_seq ?_
        refine JC_region ?_
        refine JL_pd rfl (det_move rfl) ?_
        refine JL_pd rfl (det_eql rfl rfl) ?_
        refine JL_pd rfl (det_move rfl) ?_
        -- stop: guard 2
        refine JL_is (d0 := 56) true rfl (by rfl) (fun g3 => ?_)
        refine JL_guard rfl rfl g3 ?_
        refine JL_pd rfl (det_move rfl) ?_
        refine JL_guard rfl rfl g3 ?_
        refine JL_pd rfl (det_move rfl) ?_
        refine JL_guard rfl rfl g3 ?_
        -- stop: op  5 t59 := (call (Call (value f52) (t57 t58) (31 22)))   <3 4 2 2>   182
        refine JL_step rfl rfl rfl (jo_callv rfl rfl Try.call52 rfl (hFs xs.1 xs.2)) fun _ => ?_
        refine JL_pd rfl (det_pick_t rfl g3 rfl) ?_
        refine JL_pd rfl (det_move rfl) ?_
        -- stop: guard 7
        refine JL_is (d0 := 61) true rfl (by rfl) (fun g4 => ?_)
        refine JL_guard rfl rfl g4 ?_
        refine JL_step rfl rfl rfl (jo_callv rfl rfl Try.call16 rfl (awake_j)) fun _ => ?_
        refine JL_pd rfl (det_pick_t rfl g4 rfl) ?_
        refine JL_pd rfl (det_assign rfl) ?_
        refine JL_nil ?_
        refine JE_seq ?_
        refine JC_ret ?_
        -- stop: out
        refine JE_out (.inl rfl) () (results1 Try.results14 (res_tmp rfl)) rfl (List.Perm.refl _) (fun _ _ => trivial)
      · have hsj := Shows_je
        refine JL_step rfl rfl rfl (jo_callv rfl rfl Try.call48 rfl (Shows_je x20.1 x20.2 ls (by omega) hE)) fun _ => ?_
        refine JL_pd rfl (det_move rfl) ?_
        refine JL_pd rfl (det_extract rfl rfl) ?_
        refine JL_pd rfl (det_extract rfl rfl) ?_
        refine JL_pd rfl (det_assign rfl) ?_
        refine JL_pd rfl (det_assign rfl) ?_
        refine JL_nil ?_
        refine JE_seq ?_
        refine JC_seq ?_
        refine JC_region ?_
        refine JL_pd rfl (det_move rfl) ?_
        refine JL_step rfl rfl rfl (jo_call rfl rfl Try.call22 rfl (hmj)) fun x25 => ?_
        refine JL_pd rfl (det_move rfl) ?_
        refine JL_step rfl rfl rfl (jo_call rfl rfl Try.call18 rfl (hlj)) fun x27 => ?_
        -- stop: op  4 t28 := (call (Call (value f50) (t25 t27) (33 22)))   <1 3 3>   175
        refine JL_step rfl rfl rfl (jo_callv rfl rfl Try.call50 rfl (hpj x25.1 x25.2 x27.1 x27.2)) fun _ => ?_
        refine JL_pd rfl (det_assign rfl) ?_
        refine JL_nil ?_
        refine JE_seq ?_
        refine JC_seq ?_
        refine JC_seq ?_
        refine JC_region ?_
        refine JL_pd rfl (det_move rfl) ?_
        refine JL_pd rfl (det_move rfl) ?_
        refine JL_step rfl rfl rfl (jo_callv rfl rfl Try.call51 rfl (hmf)) fun _ => ?_
        refine JL_pd rfl (det_eql rfl rfl) ?_
        refine JL_pd rfl (det_move rfl) ?_
        -- stop: guard 4
        by_cases hm : mfE ls = 0
        · obtain ⟨_, hV⟩ := mfE_of hm
          have hFj := Fit_j a c ls sa sc s (by omega) hV
          generalize fitsB ls s = F at hpj hFj
          generalize readE ls = E at hE hfj
          refine JL_is (d0 := 33) true rfl (by exact decide_eq_true hm) (fun g2 => ?_)
          refine JL_guard rfl rfl g2 ?_
          refine JL_pd rfl (det_move rfl) ?_
          refine JL_guard rfl rfl g2 ?_
          refine JL_pd rfl (det_move rfl) ?_
          refine JL_guard rfl rfl g2 ?_
          -- stop: op  7 t36 := (call (Call (value f52) (t34 t35) (31 22)))   <5 6 4 4>   176
          refine JL_step rfl rfl rfl (jo_callv rfl rfl Try.call52 rfl (hFj)) fun _ => ?_
          refine JL_pd rfl (det_pick_t rfl g2 rfl) ?_
          refine JL_pd rfl (det_neqB rfl rfl Try.underlying4) ?_
          refine JL_nil ?_
          refine JE_seq ?_
          -- stop: cond
          refine JC_cond rfl (fun h3 => ?_) (fun h3 => ?_)
          · exact absurd h3 (by rw [decide_eq_true hm]; cases F <;> decide)
          refine JC_skip ?_
          refine JE_seq ?_
          refine JC_seq ?_
          refine JC_seq ?_
          refine JC_region ?_
          refine JL_pd rfl (det_move rfl) ?_
          refine JL_step rfl rfl rfl (jo_callv rfl rfl Try.call24 rfl (hfj)) fun _ => ?_
          refine JL_pd rfl (det_assign rfl) ?_
          refine JL_nil ?_
          refine JE_seq ?_
          refine JC_seq ?_
          refine JC_region ?_
          refine JL_pd rfl (det_move rfl) ?_
          refine JL_pd rfl (det_neq rfl rfl) ?_
          refine JL_nil ?_
          refine JE_seq ?_
          -- stop: cond
          refine JC_ifn rfl (fun h4 => ?_) (fun h4 => ?_)
          · refine JC_seq ?_
            refine JC_region ?_
            refine JL_pd rfl (det_move rfl) ?_
            refine JL_pd rfl (det_move rfl) ?_
            refine JL_pd rfl (det_eql rfl rfl) ?_
            refine JL_pd rfl (det_move rfl) ?_
            -- stop: guard 3
            skip
            refine JL_is (d0 := 46) true rfl (by first | exact decide_eq_true rfl | rfl) (fun g1 => ?_)
            refine JL_guard rfl rfl g1 ?_
            refine JL_pd rfl (det_move rfl) ?_
            refine JL_guard rfl rfl g1 ?_
            refine JL_pd rfl (det_len rfl Try.runUnderlying22) ?_
            refine JL_guard rfl rfl g1 ?_
            refine JL_pd rfl (det_eql rfl rfl) ?_
            refine JL_pd rfl (det_pick_t rfl g1 rfl) ?_
            refine JL_pd rfl (det_move rfl) ?_
            refine JL_is (d0 := 51) true rfl (by first | exact decide_eq_true rfl | rfl) (fun g2 => ?_)
            refine JL_guard rfl rfl g2 ?_
            refine JL_step rfl rfl rfl (jo_callv rfl rfl Try.call16 rfl (awake_j)) fun _ => ?_
            refine JL_pd rfl (det_pick_t rfl g2 rfl) ?_
            refine JL_pd rfl (det_assign rfl) ?_
            refine JL_nil ?_
            refine JE_seq ?_
            refine JC_ret ?_
            refine JE_seq_ret ?_
            -- stop: out
            refine JE_out (.inl rfl) () (results1 Try.results14 (res_tmp rfl)) rfl (List.Perm.refl _) (fun _ _ => trivial)
          · exact absurd h4 hE
        · generalize readE ls = E at hE hfj
          refine JL_is (d0 := 33) false rfl (by exact decide_eq_false hm) (fun g2 => ?_)
          refine JL_skip rfl rfl g2 rfl ?_
          refine JL_skip rfl rfl g2 rfl ?_
          refine JL_skip rfl rfl g2 rfl ?_
          refine JL_pd rfl (det_pick_f rfl g2 rfl) ?_
          refine JL_pd rfl (det_neqB rfl rfl Try.underlying4) ?_
          refine JL_nil ?_
          refine JE_seq ?_
          -- stop: cond
          refine JC_cond rfl (fun h3 => ?_) (fun h3 => ?_)
          · exact absurd h3 (by rw [decide_eq_false hm, Bool.false_and]; decide)
          refine JC_skip ?_
          refine JE_seq ?_
          refine JC_seq ?_
          refine JC_seq ?_
          refine JC_region ?_
          refine JL_pd rfl (det_move rfl) ?_
          refine JL_step rfl rfl rfl (jo_callv rfl rfl Try.call24 rfl (hfj)) fun _ => ?_
          refine JL_pd rfl (det_assign rfl) ?_
          refine JL_nil ?_
          refine JE_seq ?_
          refine JC_seq ?_
          refine JC_region ?_
          refine JL_pd rfl (det_move rfl) ?_
          refine JL_pd rfl (det_neq rfl rfl) ?_
          refine JL_nil ?_
          refine JE_seq ?_
          -- stop: cond
          refine JC_ifn rfl (fun h4 => ?_) (fun h4 => ?_)
          · refine JC_seq ?_
            refine JC_region ?_
            refine JL_pd rfl (det_move rfl) ?_
            refine JL_pd rfl (det_move rfl) ?_
            refine JL_pd rfl (det_eql rfl rfl) ?_
            refine JL_pd rfl (det_move rfl) ?_
            -- stop: guard 3
            skip
            refine JL_is (d0 := 46) true rfl (by first | exact decide_eq_true rfl | rfl) (fun g1 => ?_)
            refine JL_guard rfl rfl g1 ?_
            refine JL_pd rfl (det_move rfl) ?_
            refine JL_guard rfl rfl g1 ?_
            refine JL_pd rfl (det_len rfl Try.runUnderlying22) ?_
            refine JL_guard rfl rfl g1 ?_
            refine JL_pd rfl (det_eql rfl rfl) ?_
            refine JL_pd rfl (det_pick_t rfl g1 rfl) ?_
            refine JL_pd rfl (det_move rfl) ?_
            refine JL_is (d0 := 51) true rfl (by first | exact decide_eq_true rfl | rfl) (fun g2 => ?_)
            refine JL_guard rfl rfl g2 ?_
            refine JL_step rfl rfl rfl (jo_callv rfl rfl Try.call16 rfl (awake_j)) fun _ => ?_
            refine JL_pd rfl (det_pick_t rfl g2 rfl) ?_
            refine JL_pd rfl (det_assign rfl) ?_
            refine JL_nil ?_
            refine JE_seq ?_
            refine JC_ret ?_
            refine JE_seq_ret ?_
            -- stop: out
            refine JE_out (.inl rfl) () (results1 Try.results14 (res_tmp rfl)) rfl (List.Perm.refl _) (fun _ _ => trivial)
          · exact absurd h4 hE
end Go.Proofs.Ytjbmkdbgobmclaa
