/- Own texts, laid together: B30 B31. Nothing is asked. -/
import Derived.Test.YtjbmkdbgobmclaaQA
set_option linter.unusedSimpArgs false
set_option linter.unusedVariables false
/- Walks of bill and of its reference: do sales fit? -/
namespace Go.Proofs.Ytjbmkdbgobmclaa
open Go.RowKit Go.Shelf

def fitM (s : List Int) (m : Ms) : Bool := decide (s.getD (m.no.toNat - 1) 0 = m.coins) && decide ((s.take m.no.toNat).sum = m.total)
def fitsB (l : List Ms) (s : List Int) : Bool := decide ((s.length : Int) = lastM l) && (s.all (fun n => inI n 1 1000) && l.all (fitM s))
theorem fitsB_iff {l : List Ms} {s : List Int} (hV : ∀ m ∈ l, VMs m) : fitsB l s = true ↔ Fits l s := by
  unfold fitsB fitM
  simp only [Bool.and_eq_true, decide_eq_true_eq, List.all_eq_true, inI_iff]
  constructor
  · rintro ⟨h1, h2, h3⟩
    refine ⟨h1, h2, fun m hm => ?_, fun m hm => (h3 m hm).2⟩
    have h4 := (hV m hm).n0
    have h5 := lastM_le hm
    have h6 := (h3 m hm).1
    rw [List.getD_eq_getElem?_getD, List.getElem?_eq_getElem (by omega)] at h6
    rw [List.getElem?_eq_getElem (by omega)]
    simpa using h6
  · intro h
    refine ⟨h.len, h.ok, fun m hm => ⟨?_, h.sum m hm⟩⟩
    rw [List.getD_eq_getElem?_getD, h.at_ m hm]; rfl
theorem getD_of {s : List Int} {i : Nat} (h : i < s.length) : s.getD i 0 = s[i] := by rw [List.getD_eq_getElem?_getD, List.getElem?_eq_getElem h]; rfl
theorem sum_bd1 : ∀ (l : List Int), (∀ x ∈ l, 1 ≤ x ∧ x ≤ 1000) → 0 ≤ l.sum ∧ l.sum ≤ 1000 * l.length := fun l h => sum_bd l fun x hx => by have := h x hx; omega
set_option maxRecDepth 100000 in
set_option maxHeartbeats 1000000 in
theorem Fit_j (a : Option Addr) (c : Nat) (ls : List Ms) (sa : Option Addr) (sc : Nat) (s : List Int) (hl : ls.length ≤ 1000) (hV : ∀ m ∈ ls, VMs m) : Cv Try.prog 52 [.slice a ls.length c, .slice sa s.length sc] (KAnd (KSl a ls.length c encM ls) (KSl sa s.length sc encI s)) (.bool (fitsB ls s)) := by
  have hlj := Last_j a c ls hl
  have h60 := lastM_60 hV
  refine Cx_of Try.func52 rfl Try.ntmps52 rfl fun w0 M0 => ?_
  refine JC_seq ?_
  refine JC_region ?_
  refine JL_pd rfl (det_assign rfl) ?_
  refine JL_nil ?_
  refine JE_seq ?_
  refine JC_seq ?_
  refine JC_seq ?_
  refine JC_region ?_
  refine JL_pd rfl (det_move rfl) ?_
  refine JL_pd rfl (det_len rfl Try.runUnderlying22) ?_
  refine JL_pd rfl (det_move rfl) ?_
  refine JL_step rfl rfl rfl (jo_callv rfl rfl Try.call28 rfl (hlj)) fun _ => ?_
  refine JL_pd rfl (det_neq rfl rfl) ?_
  refine JL_nil ?_
  refine JE_seq ?_
  -- stop: cond
  refine JC_ifn rfl (fun h1 => ?_) (fun h1 => ?_)
  · refine JC_seq ?_
    refine JC_region ?_
    refine JL_pd rfl (det_assign rfl) ?_
    refine JL_nil ?_
    refine JE_seq ?_
    refine JC_ret ?_
    refine JE_seq_ret ?_
    -- stop: out
    refine JE_out (.inl rfl) () (results1 Try.results52 (res_tmp rfl)) (by unfold fitsB; rw [decide_eq_false h1]; rfl) (List.Perm.refl _) (fun _ _ => trivial)
  · have h1 : (s.length : Int) = lastM ls := h1
    refine JC_skip ?_
    refine JE_seq ?_
    refine JC_seq ?_
    refine JC_seq ?_
    refine JC_region ?_
    refine JL_pd rfl (det_assign rfl) ?_
    refine JL_nil ?_
    refine JE_seq ?_
    refine JC_block ?_
    -- stop: loop
    refine JC_loopF (γ := Nat) (fun i => i ≤ s.length ∧ (s.take i).all (fun n => inI n 1 1000) = true) (fun i => [(5, I i)]) (fun _ => []) (fun i => s.length - i) 0 ⟨Nat.zero_le _, rfl⟩ (stsub_consI rfl rfl stsub_nil) ht_nil ?_
    rintro i ⟨hi, ha⟩ K hK
    dsimp only [List.cons_append, List.nil_append]
    refine JC_seq ?_
    refine JC_seq ?_
    refine JC_region ?_
    refine JL_pd rfl (det_move rfl) ?_
    refine JL_pd rfl (det_move rfl) ?_
    refine JL_pd rfl (det_len rfl Try.runUnderlying22) ?_
    refine JL_pd rfl (det_lss rfl rfl) ?_
    refine JL_nil ?_
    refine JE_seq ?_
    -- stop: cond
    refine JC_if rfl (fun h2 => ?_) (fun h2 => ?_)
    · have hi2 : i < s.length := by omega
      refine JC_skip ?_
      refine JE_seq ?_
      refine JC_seq ?_
      refine JC_block ?_
      refine JC_seq ?_
      refine JC_region ?_
      refine JL_pd rfl (det_move rfl) ?_
      refine JL_pd rfl (det_move rfl) ?_
      refine JL_dt rfl (det_indexAddr rfl rfl (by first | rfl | omega) (by first | assumption | omega | decide) Try.runUnderlying22 Try.sizeOf3) ?_
      refine JL_dt rfl (det_loadE rfl (by first | assumption | omega | decide) Try.isAgg3 rfl rfl) ?_
      refine JL_step rfl rfl rfl (jo_callv rfl rfl Try.call27 rfl (In_j _ _ _)) fun _ => ?_
      refine JL_pd rfl (det_not rfl) ?_
      refine JL_nil ?_
      refine JE_seq ?_
      -- stop: cond
      refine JC_cond rfl (fun h3 => ?_) (fun h3 => ?_)
      · simp only [Bool.not_eq_true'] at h3
        refine JC_seq ?_
        refine JC_region ?_
        refine JL_pd rfl (det_assign rfl) ?_
        refine JL_nil ?_
        refine JE_seq ?_
        refine JC_ret ?_
        refine JE_block_ret ?_
        refine JE_seq_ret ?_
        refine JE_then_ret ?_
        refine JE_block_ret ?_
        refine JE_seq_ret ?_
        -- stop: out
        refine JE_out (.inl rfl) () (results1 Try.results52 (res_tmp rfl)) (by unfold fitsB; rw [all_no hi2 h3, Bool.false_and, Bool.and_false]) (List.Perm.refl _) (fun _ _ => trivial)
      · simp only [Bool.not_eq_false'] at h3
        refine JC_skip ?_
        refine JE_block ?_
        refine JE_seq ?_
        refine JC_region ?_
        refine JL_pd rfl (det_move rfl) ?_
        refine JL_pd rfl (det_add rfl rfl ⟨by omega, by omega⟩) ?_
        refine JL_pd rfl (det_assign rfl) ?_
        refine JL_nil ?_
        -- stop: end
        refine JE_roundF hK (i + 1) ⟨by omega, all_snoc hi2 ha h3⟩ (by omega) (stsub_consI rfl (by omega) stsub_nil) ht_nil
    · obtain rfl : i = s.length := by omega
      rw [List.take_length] at ha
      have hok : ∀ x ∈ s, 1 ≤ x ∧ x ≤ 1000 := fun x hx => inI_iff.1 (List.all_eq_true.1 ha x hx)
      refine JC_exit ?_
      refine JE_seq_exit ?_
      refine JE_then_exit ?_
      refine JE_block_here ?_
      refine JE_seq ?_
      refine JC_seq ?_
      refine JC_seq ?_
      refine JC_region ?_
      refine JL_pd rfl (det_assign rfl) ?_
      refine JL_nil ?_
      refine JE_seq ?_
      refine JC_block ?_
      -- stop: loop
      refine JC_loopF (γ := Nat) (fun i => i ≤ ls.length ∧ (ls.take i).all (fitM s) = true) (fun i => [(6, I i)]) (fun _ => []) (fun i => ls.length - i) 0 ⟨Nat.zero_le _, rfl⟩ (stsub_consI rfl rfl stsub_nil) ht_nil ?_
      rintro i ⟨hi, hb⟩ K hK
      dsimp only [List.cons_append, List.nil_append]
      refine JC_seq ?_
      refine JC_seq ?_
      refine JC_region ?_
      refine JL_pd rfl (det_move rfl) ?_
      refine JL_pd rfl (det_move rfl) ?_
      refine JL_pd rfl (det_len rfl Try.runUnderlying31) ?_
      refine JL_pd rfl (det_lss rfl rfl) ?_
      refine JL_nil ?_
      refine JE_seq ?_
      -- stop: cond
      refine JC_if rfl (fun h3 => ?_) (fun h3 => ?_)
      · have hi2 : i < ls.length := by omega
        have hm := hV _ (List.getElem_mem hi2)
        have v1 := hm.n0
        have v2 := lastM_le (List.getElem_mem hi2)
        refine JC_skip ?_
        refine JE_seq ?_
        refine JC_seq ?_
        refine JC_block ?_
        refine JC_seq ?_
        refine JC_region ?_
        refine JL_pd rfl (det_assign rfl) ?_
        refine JL_nil ?_
        refine JE_seq ?_
        refine JC_seq ?_
        refine JC_seq ?_
        refine JC_region ?_
        refine JL_pd rfl (det_assign rfl) ?_
        refine JL_nil ?_
        refine JE_seq ?_
        refine JC_block ?_
        -- stop: loop
        refine JC_loopF (γ := Nat) (fun k => k ≤ ls[i].no.toNat) (fun k => [(8, I k), (7, I (s.take k).sum)]) (fun _ => []) (fun k => ls[i].no.toNat - k) 0 (Nat.zero_le _) (stsub_consI rfl rfl (stsub_consI rfl (by simp) stsub_nil)) ht_nil ?_
        intro k hk K1 hK1
        dsimp only [List.cons_append, List.nil_append]
        have hbd := sum_bd1 (s.take k) fun x hx => hok x (List.mem_of_mem_take hx)
        rw [List.length_take] at hbd
        refine JC_seq ?_
        refine JC_seq ?_
        refine JC_region ?_
        refine JL_pd rfl (det_move rfl) ?_
        refine JL_pd rfl (det_move rfl) ?_
        refine JL_pd rfl (det_move rfl) ?_
        refine JL_dt rfl (det_indexAddr rfl rfl (by first | rfl | omega) (by first | assumption | omega | decide) Try.runUnderlying31 Try.sizeOf74) ?_
        refine JL_pd rfl (det_fieldAddrE rfl fo_74_0) ?_
        refine JL_dt rfl (det_loadEk rfl (by first | assumption | omega | decide) Try.isAgg3 rfl rfl) ?_
        refine JL_pd rfl (det_lss rfl rfl) ?_
        refine JL_nil ?_
        refine JE_seq ?_
        -- stop: cond
        refine JC_if rfl (fun h4 => ?_) (fun h4 => ?_)
        · have hk2 : k < s.length := by omega
          have hsk := hok _ (List.getElem_mem hk2)
          have hts := take_sum hk2
          refine JC_skip ?_
          refine JE_seq ?_
          refine JC_seq ?_
          refine JC_block ?_
          refine JC_region ?_
          refine JL_pd rfl (det_move rfl) ?_
          refine JL_pd rfl (det_move rfl) ?_
          refine JL_pd rfl (det_move rfl) ?_
          refine JL_dt rfl (det_indexAddr rfl rfl (by first | rfl | omega) (by first | assumption | omega | decide) Try.runUnderlying22 Try.sizeOf3) ?_
          refine JL_dt rfl (det_loadE rfl (by first | assumption | omega | decide) Try.isAgg3 rfl rfl) ?_
          refine JL_pd rfl (det_add rfl rfl ⟨by omega, by omega⟩) ?_
          refine JL_pd rfl (det_assign rfl) ?_
          refine JL_nil ?_
          refine JE_block ?_
          refine JE_seq ?_
          refine JC_region ?_
          refine JL_pd rfl (det_move rfl) ?_
          refine JL_pd rfl (det_add rfl rfl ⟨by omega, by omega⟩) ?_
          refine JL_pd rfl (det_assign rfl) ?_
          refine JL_nil ?_
          -- stop: end
          refine JE_roundF hK1 (k + 1) (by omega) (by omega) (stsub_consI rfl (by omega) (stsub_consI rfl (by omega) stsub_nil)) ht_nil
        · obtain rfl : k = ls[i].no.toNat := by omega
          have hgd := getD_of (s := s) (i := ls[i].no.toNat - 1) (by omega)
          refine JC_exit ?_
          refine JE_seq_exit ?_
          refine JE_then_exit ?_
          refine JE_block_here ?_
          refine JE_seq ?_
          refine JC_seq ?_
          refine JC_draw [] (by kernel_rfl) ?_
          refine JA_pd (i := 0) rfl (by kernel_rfl) rfl rfl (det_move rfl) ?_
          refine JA_pd (i := 1) rfl (by kernel_rfl) rfl rfl (det_move rfl) ?_
          refine JA_pd (i := 2) rfl (by kernel_rfl) rfl rfl (det_move rfl) ?_
          refine JA_dt (i := 3) rfl (by kernel_rfl) (by kernel_rfl) rfl rfl (det_indexAddr rfl rfl (by first | rfl | omega) (by first | assumption | omega | decide) Try.runUnderlying31 Try.sizeOf74) ?_
          refine JA_pd (i := 4) rfl (by kernel_rfl) rfl rfl (det_fieldAddrE rfl fo_74_0) ?_
          refine JA_dt (i := 5) rfl (by kernel_rfl) (by kernel_rfl) rfl rfl (det_loadEk rfl (by first | assumption | omega | decide) Try.isAgg3 rfl rfl) ?_
          refine JA_pd (i := 6) rfl (by kernel_rfl) rfl rfl (det_sub rfl rfl ⟨by omega, by omega⟩) ?_
          refine JA_dt (i := 7) rfl (by kernel_rfl) (by kernel_rfl) rfl rfl (det_indexAddr (i := ls[i].no.toNat - 1) rfl rfl (by omega) (by omega) Try.runUnderlying22 Try.sizeOf3) ?_
          refine JA_dt (i := 8) rfl (by kernel_rfl) (by kernel_rfl) rfl rfl (det_loadE rfl (by first | assumption | omega | decide) Try.isAgg3 rfl rfl) ?_
          refine JA_pd (i := 9) rfl (by kernel_rfl) rfl rfl (det_move rfl) ?_
          refine JA_pd (i := 10) rfl (by kernel_rfl) rfl rfl (det_move rfl) ?_
          refine JA_dt (i := 11) rfl (by kernel_rfl) (by kernel_rfl) rfl rfl (det_indexAddr rfl rfl (by first | rfl | omega) (by first | assumption | omega | decide) Try.runUnderlying31 Try.sizeOf74) ?_
          refine JA_pd (i := 12) rfl (by kernel_rfl) rfl rfl (det_fieldAddrE rfl fo_74_1) ?_
          refine JA_dt (i := 13) rfl (by kernel_rfl) (by kernel_rfl) rfl rfl (det_loadEk rfl (by first | assumption | omega | decide) Try.isAgg3 rfl rfl) ?_
          refine JA_pd (i := 14) rfl (by kernel_rfl) rfl rfl (det_neq rfl rfl) ?_
          refine JA_pd (i := 15) rfl (by kernel_rfl) rfl rfl (det_move rfl) ?_
          -- stop: guard 15
          by_cases h5 : s[ls[i].no.toNat - 1]'(by omega) = ls[i].coins
          · refine JA_is (d0 := 62) false rfl (by rw [decide_eq_true h5]; rfl) (fun g1 => ?_)
            refine JA_gpd (i := 16) rfl (by kernel_rfl) rfl rfl rfl rfl g1 (det_move rfl) ?_
            refine JA_gpd (i := 17) rfl (by kernel_rfl) rfl rfl rfl rfl g1 (det_move rfl) ?_
            refine JA_gpd (i := 18) rfl (by kernel_rfl) rfl rfl rfl rfl g1 (det_move rfl) ?_
            refine JA_gdt (i := 19) rfl (by kernel_rfl) (by kernel_rfl) rfl rfl rfl rfl g1 (det_indexAddr rfl rfl (by first | rfl | omega) (by first | assumption | omega | decide) Try.runUnderlying31 Try.sizeOf74) ?_
            refine JA_gpd (i := 20) rfl (by kernel_rfl) rfl rfl rfl rfl g1 (det_fieldAddrE rfl fo_74_2) ?_
            refine JA_gdt (i := 21) rfl (by kernel_rfl) (by kernel_rfl) rfl rfl rfl rfl g1 (det_loadEk rfl (by first | assumption | omega | decide) Try.isAgg3 rfl rfl) ?_
            refine JA_gpd (i := 22) rfl (by kernel_rfl) rfl rfl rfl rfl g1 (det_neq rfl rfl) ?_
            refine JA_pd (i := 23) rfl (by kernel_rfl) rfl rfl (det_pick_f rfl g1 rfl) ?_
            refine JA_done (by kernel_rfl) ?_
            refine JE_seq ?_
            -- stop: cond
            refine JC_ifn rfl (fun h6 => ?_) (fun h6 => ?_)
            · refine JC_seq ?_
              refine JC_region ?_
              refine JL_pd rfl (det_assign rfl) ?_
              refine JL_nil ?_
              refine JE_seq ?_
              refine JC_ret ?_
              refine JE_block_ret ?_
              refine JE_seq_ret ?_
              refine JE_then_ret ?_
              refine JE_block_ret ?_
              refine JE_seq_ret ?_
              -- stop: out
              refine JE_out (.inl rfl) () (results1 Try.results52 (res_tmp rfl)) (by unfold fitsB; rw [all_no hi2 (show fitM s ls[i] = false by unfold fitM; rw [decide_eq_false h6, Bool.and_false]), Bool.and_false, Bool.and_false]) (List.Perm.refl _) (fun _ _ => trivial)
            · refine JC_skip ?_
              refine JE_block ?_
              refine JE_seq ?_
              refine JC_region ?_
              refine JL_pd rfl (det_move rfl) ?_
              refine JL_pd rfl (det_add rfl rfl ⟨by omega, by omega⟩) ?_
              refine JL_pd rfl (det_assign rfl) ?_
              refine JL_nil ?_
              -- stop: end
              refine JE_roundF hK (i + 1) ⟨by omega, all_snoc hi2 hb (by unfold fitM; rw [hgd, decide_eq_true h5, decide_eq_true h6]; rfl)⟩ (by omega) (stsub_consI rfl (by omega) stsub_nil) ht_nil
          · skip
            refine JA_is (d0 := 62) true rfl (by rw [decide_eq_false h5]; rfl) (fun g1 => ?_)
            refine JA_skip (i := 16) rfl (by kernel_rfl) rfl rfl rfl rfl g1 ?_
            refine JA_skip (i := 17) rfl (by kernel_rfl) rfl rfl rfl rfl g1 ?_
            refine JA_skip (i := 18) rfl (by kernel_rfl) rfl rfl rfl rfl g1 ?_
            refine JA_skip (i := 19) rfl (by kernel_rfl) rfl rfl rfl rfl g1 ?_
            refine JA_skip (i := 20) rfl (by kernel_rfl) rfl rfl rfl rfl g1 ?_
            refine JA_skip (i := 21) rfl (by kernel_rfl) rfl rfl rfl rfl g1 ?_
            refine JA_skip (i := 22) rfl (by kernel_rfl) rfl rfl rfl rfl g1 ?_
            refine JA_pd (i := 23) rfl (by kernel_rfl) rfl rfl (det_pick_t rfl g1 rfl) ?_
            refine JA_done (by kernel_rfl) ?_
            refine JE_seq ?_
            -- stop: cond
            refine JC_cond rfl (fun h6 => ?_) (fun h6 => ?_)
            · refine JC_seq ?_
              refine JC_region ?_
              refine JL_pd rfl (det_assign rfl) ?_
              refine JL_nil ?_
              refine JE_seq ?_
              refine JC_ret ?_
              refine JE_block_ret ?_
              refine JE_seq_ret ?_
              refine JE_then_ret ?_
              refine JE_block_ret ?_
              refine JE_seq_ret ?_
              -- stop: out
              refine JE_out (.inl rfl) () (results1 Try.results52 (res_tmp rfl)) (by unfold fitsB; rw [all_no hi2 (show fitM s ls[i] = false by unfold fitM; rw [hgd, decide_eq_false h5, Bool.false_and]), Bool.and_false, Bool.and_false]) (List.Perm.refl _) (fun _ _ => trivial)
            · cases h6
      · obtain rfl : i = ls.length := by omega
        rw [List.take_length] at hb
        refine JC_exit ?_
        refine JE_seq_exit ?_
        refine JE_then_exit ?_
        refine JE_block_here ?_
        refine JE_seq ?_
        refine JC_seq ?_
        refine JC_region ?_
        refine JL_pd rfl (det_assign rfl) ?_
        refine JL_nil ?_
        refine JE_seq ?_
        refine JC_ret ?_
        -- stop: out
        refine JE_out (.inl rfl) () (results1 Try.results52 (res_tmp rfl)) (by unfold fitsB; rw [ha, hb, decide_eq_true h1]; rfl) (List.Perm.refl _) (fun _ _ => trivial)
theorem right_j (n : Int) : Cv Try.prog 77 [I n] KTrue (.bool (inI n 1 1000)) := by
  refine Cx_of Try.func77 rfl Try.ntmps77 rfl fun w0 M0 => ?_
  refine JC_seq ?_
  refine JC_region ?_
  refine JL_pd rfl (det_assign rfl) ?_
  refine JL_nil ?_
  refine JE_seq ?_
  refine JC_seq ?_
  refine JC_region ?_
  refine JL_pd rfl (det_move rfl) ?_
  refine JL_step rfl rfl rfl (jo_callv rfl rfl Try.call56 rfl (within_j _ _ _)) fun _ => ?_
  refine JL_pd rfl (det_assign rfl) ?_
  refine JL_nil ?_
  refine JE_seq ?_
  refine JC_ret ?_
  refine JE_out (.inl rfl) () (results1 Try.results77 (res_tmp rfl)) ?_ (List.Perm.refl _) (fun _ _ => trivial)
  rfl
set_option maxRecDepth 100000 in
set_option maxHeartbeats 1000000 in
theorem ProveSales_j (a : Option Addr) (c : Nat) (ls : List Ms) (sa : Option Addr) (sc : Nat) (s : List Int) (hl : ls.length ≤ 1000) (hs : s.length ≤ 1000) : Cv Try.prog 50 [.slice a ls.length c, .slice sa s.length sc] (KAnd (KSl a ls.length c encM ls) (KSl sa s.length sc encI s)) (.bool (decide (mfE ls = 0) && fitsB ls s)) := by
  have hV1 := allM_j msOk 79 [] [] KTrue Try.call79 a c ls (fun x hx => msvalid_j x) (by omega)
  have hV2 := allI_j (fun n => inI n 1 1000) 77 [] [] KTrue Try.call77 (fun n => right_j n) sa sc s (by omega)
  refine Cx_of Try.func50 rfl Try.ntmps50 rfl fun w0 M0 => ?_
  refine JC_seq ?_
  refine JC_region ?_
  refine JL_pd rfl (det_assign rfl) ?_
  refine JL_nil ?_
  refine JE_seq ?_
  refine JC_seq ?_
  refine JC_region ?_
  refine JL_pd rfl (det_assign rfl) ?_
  refine JL_nil ?_
  refine JE_seq ?_
  refine JC_seq ?_
  refine JC_region ?_
  refine JL_pd rfl (det_assign rfl) ?_
  refine JL_nil ?_
  refine JE_seq ?_
  refine JC_seq ?_
  refine JC_seq ?_
  refine JC_region ?_
  refine JL_pd rfl (det_move rfl) ?_
  refine JL_pd rfl (det_len rfl Try.runUnderlying33) ?_
  refine JL_pd rfl (det_move rfl) ?_
  refine JL_nil ?_
  refine JE_seq ?_
  refine JC_block ?_
  -- stop: loop
  refine JC_loopF (γ := Nat) (fun i => i ≤ ls.length) (fun i => [(15, I i), (6, I (lastM (ls.take i)))]) (fun _ => []) (fun i => ls.length - i) 0 (Nat.zero_le _) (stsub_consI rfl rfl (stsub_cons rfl stsub_nil)) ht_nil ?_
  rintro i hi K hK
  dsimp only [List.cons_append, List.nil_append]
  refine JC_seq ?_
  refine JC_region ?_
  refine JL_pd rfl (det_lss rfl rfl) ?_
  refine JL_nil ?_
  refine JE_seq ?_
  refine JC_seq ?_
  -- stop: cond
  refine JC_if rfl (fun h1 => ?_) (fun h1 => ?_)
  · have hi2 : i < ls.length := by omega
    have hsn : lastM (ls.take (i + 1)) = max (lastM (ls.take i)) ls[i].no := by rw [take_snoc hi2, lastM, List.foldl_append]; rfl
    refine JC_skip ?_
    refine JE_seq ?_
    refine JC_seq ?_
    refine JC_block ?_
    refine JC_seq ?_
    refine JC_region ?_
    refine JL_dt rfl (det_indexAddr rfl rfl (by first | rfl | omega) (by first | assumption | omega | decide) Try.runUnderlying33 Try.sizeOf94) ?_
    refine JL_dt rfl (det_loadEA rfl (by first | assumption | omega | decide) Try.isAgg94 Try.sizeOf94 rfl rfl rfl) ?_
    refine JL_step rfl rfl rfl (jo_alloc0 Try.zeroValue94 rfl) fun b8 => ?_
    refine JL_step0 rfl rfl (jo_store rfl rfl rfl (by first | (simp only [splice_norm]; done) | (simp only [splice_norm]; rfl) | rfl) Try.sizeOf94 rfl rfl) fun _ => ?_
    refine JL_nil ?_
    refine JE_seq ?_
    refine JC_region ?_
    refine JL_pd rfl (det_move rfl) ?_
    refine JL_pd rfl (det_fieldAddr rfl fo_94_0) ?_
    refine JL_dt rfl (det_loadK rfl Try.isAgg3 rfl) ?_
    refine JL_pd rfl (det_max rfl rfl) ?_
    refine JL_pd rfl (det_assign rfl) ?_
    refine JL_nil ?_
    refine JE_block ?_
    refine JE_seq ?_
    refine JC_region ?_
    refine JL_pd rfl (det_add rfl rfl ⟨by omega, by omega⟩) ?_
    refine JL_pd rfl (det_move rfl) ?_
    refine JL_nil ?_
    -- stop: end
    refine JE_roundF hK (i + 1) (by omega) (by omega) (stsub_consI rfl (by omega) (stsub_consI rfl hsn.symm stsub_nil)) ht_nil
  · obtain rfl : i = ls.length := by omega
    rw [List.take_length]
    refine JC_exit ?_
    refine JE_seq_exit ?_
    refine JE_then_exit ?_
    refine JE_block_here ?_
    refine JE_seq ?_
    refine JC_seq ?_
    refine JC_seq ?_
    refine JC_region ?_
    refine JL_pd rfl (det_move rfl) ?_
    refine JL_pd rfl (det_len rfl Try.runUnderlying33) ?_
    refine JL_pd rfl (det_gtr rfl rfl) ?_
    refine JL_pd rfl (det_move rfl) ?_
    -- stop: guard 3
    by_cases q1 : 30 < ls.length
    · refine JL_is (d0 := 27) true rfl (by exact decide_eq_true (by omega)) (fun g1 => ?_)
      refine JL_skip rfl rfl g1 rfl ?_
      refine JL_skip rfl rfl g1 rfl ?_
      refine JL_skip rfl rfl g1 rfl ?_
      refine JL_pd rfl (det_pick_t rfl g1 rfl) ?_
      refine JL_pd rfl (det_move rfl) ?_
      refine JL_skip rfl rfl rfl rfl ?_
      refine JL_skip rfl rfl rfl rfl ?_
      refine JL_skip rfl rfl rfl rfl ?_
      refine JL_skip rfl rfl rfl rfl ?_
      refine JL_pd rfl (det_pick_t rfl rfl rfl) ?_
      refine JL_pd rfl (det_move rfl) ?_
      refine JL_skip rfl rfl rfl rfl ?_
      refine JL_skip rfl rfl rfl rfl ?_
      refine JL_skip rfl rfl rfl rfl ?_
      refine JL_skip rfl rfl rfl rfl ?_
      refine JL_pd rfl (det_pick_t rfl rfl rfl) ?_
      refine JL_nil ?_
      refine JE_seq ?_
      refine JC_condT rfl rfl ?_
      refine JC_seq ?_
      refine JC_region ?_
      refine JL_pd rfl (det_assign rfl) ?_
      refine JL_nil ?_
      refine JE_seq ?_
      refine JC_ret ?_
      refine JE_seq_ret ?_
      -- stop: out
      refine JE_out (.inl rfl) () (results1 Try.results50 (res_tmp rfl)) (by rw [show mfE ls = 3 from if_pos q1]; rfl) (List.Perm.refl _) (fun _ _ => trivial)
    · skip
      refine JL_is (d0 := 27) false rfl (by exact decide_eq_false (by omega)) (fun g1 => ?_)
      refine JL_guard rfl rfl g1 ?_
      refine JL_pd rfl (det_move rfl) ?_
      refine JL_guard rfl rfl g1 ?_
      refine JL_step rfl rfl rfl (jo_callv rfl rfl Try.call78 rfl (hV1)) fun _ => ?_
      refine JL_guard rfl rfl g1 ?_
      refine JL_pd rfl (det_not rfl) ?_
      refine JL_pd rfl (det_pick_f rfl g1 rfl) ?_
      refine JL_pd rfl (det_move rfl) ?_
      -- stop: guard 8
      by_cases q2 : ls.all msOk = true
      · have hmf : mfE ls = 0 := by unfold mfE; rw [if_neg q1, if_neg (by rw [q2]; decide)]
        obtain ⟨_, hV⟩ := mfE_of hmf
        have h60 := lastM_60 hV
        rw [hmf, decide_eq_true rfl, Bool.true_and]
        refine JL_is (d0 := 32) false rfl (by rw [q2]; rfl) (fun g2 => ?_)
        refine JL_guard rfl rfl g2 ?_
        refine JL_pd rfl (det_move rfl) ?_
        refine JL_guard rfl rfl g2 ?_
        refine JL_pd rfl (det_len rfl Try.runUnderlying22) ?_
        refine JL_guard rfl rfl g2 ?_
        refine JL_pd rfl (det_move rfl) ?_
        refine JL_guard rfl rfl g2 ?_
        refine JL_pd rfl (det_neq rfl rfl) ?_
        refine JL_pd rfl (det_pick_f rfl g2 rfl) ?_
        refine JL_pd rfl (det_move rfl) ?_
        -- stop: guard 14
        by_cases q3 : (s.length : Int) = lastM ls
        · refine JL_is (d0 := 38) false rfl (by rw [decide_eq_true q3]; rfl) (fun g3 => ?_)
          refine JL_guard rfl rfl g3 ?_
          refine JL_pd rfl (det_move rfl) ?_
          refine JL_guard rfl rfl g3 ?_
          refine JL_pd rfl (det_move rfl) ?_
          refine JL_guard rfl rfl g3 ?_
          refine JL_step rfl rfl rfl (jo_callv rfl rfl Try.call57 rfl (hV2)) fun _ => ?_
          refine JL_guard rfl rfl g3 ?_
          refine JL_pd rfl (det_not rfl) ?_
          refine JL_pd rfl (det_pick_f rfl g3 rfl) ?_
          refine JL_nil ?_
          refine JE_seq ?_
          -- stop: cond
          refine JC_cond rfl (fun q4 => ?_) (fun q4 => ?_)
          · simp only [Bool.not_eq_true'] at q4
            refine JC_seq ?_
            refine JC_region ?_
            refine JL_pd rfl (det_assign rfl) ?_
            refine JL_nil ?_
            refine JE_seq ?_
            refine JC_ret ?_
            refine JE_seq_ret ?_
            -- stop: out
            refine JE_out (.inl rfl) () (results1 Try.results50 (res_tmp rfl)) (by unfold fitsB; rw [q4, Bool.false_and, Bool.and_false]) (List.Perm.refl _) (fun _ _ => trivial)
          · simp only [Bool.not_eq_false'] at q4
            have hok : ∀ x ∈ s, 1 ≤ x ∧ x ≤ 1000 := fun x hx => inI_iff.1 (List.all_eq_true.1 q4 x hx)
            refine JC_skip ?_
            refine JE_seq ?_
            refine JC_seq ?_
            refine JC_seq ?_
            refine JC_region ?_
            refine JL_pd rfl (det_move rfl) ?_
            refine JL_pd rfl (det_len rfl Try.runUnderlying33) ?_
            refine JL_pd rfl (det_move rfl) ?_
            refine JL_nil ?_
            refine JE_seq ?_
            refine JC_block ?_
            -- stop: loop
            refine JC_loopF (γ := Nat) (fun i => i ≤ ls.length ∧ (ls.take i).all (fitM s) = true) (fun i => [(46, I i)]) (fun _ => []) (fun i => ls.length - i) 0 ⟨Nat.zero_le _, rfl⟩ (stsub_consI rfl rfl stsub_nil) ht_nil ?_
            rintro i ⟨hi, hb⟩ K hK
            dsimp only [List.cons_append, List.nil_append]
            refine JC_seq ?_
            refine JC_region ?_
            refine JL_pd rfl (det_lss rfl rfl) ?_
            refine JL_nil ?_
            refine JE_seq ?_
            refine JC_seq ?_
            -- stop: cond
            refine JC_if rfl (fun h3 => ?_) (fun h3 => ?_)
            · have hi2 : i < ls.length := by omega
              have hm := hV _ (List.getElem_mem hi2)
              have v1 := hm.n0
              have v2 := lastM_le (List.getElem_mem hi2)
              refine JC_skip ?_
              refine JE_seq ?_
              refine JC_seq ?_
              refine JC_block ?_
              refine JC_seq ?_
              refine JC_region ?_
              refine JL_dt rfl (det_indexAddr rfl rfl (by first | rfl | omega) (by first | assumption | omega | decide) Try.runUnderlying33 Try.sizeOf94) ?_
              refine JL_dt rfl (det_loadEA rfl (by first | assumption | omega | decide) Try.isAgg94 Try.sizeOf94 rfl rfl rfl) ?_
              refine JL_step rfl rfl rfl (jo_alloc0 Try.zeroValue94 rfl) fun b10 => ?_
              refine JL_step0 rfl rfl (jo_store rfl rfl rfl (by first | (simp only [splice_norm]; done) | (simp only [splice_norm]; rfl) | rfl) Try.sizeOf94 rfl rfl) fun _ => ?_
              refine JL_nil ?_
              refine JE_seq ?_
              refine JC_seq ?_
              refine JC_region ?_
              refine JL_pd rfl (det_assign rfl) ?_
              refine JL_nil ?_
              refine JE_seq ?_
              refine JC_seq ?_
              refine JC_seq ?_
              refine JC_region ?_
              refine JL_pd rfl (det_fieldAddr rfl fo_94_0) ?_
              refine JL_dt rfl (det_loadK rfl Try.isAgg3 rfl) ?_
              refine JL_pd rfl (det_move rfl) ?_
              refine JL_nil ?_
              refine JE_seq ?_
              refine JC_block ?_
              -- stop: loop
              refine JC_loopF (γ := Nat) (fun k => k ≤ ls[i].no.toNat) (fun k => [(52, I k), (11, I (s.take k).sum)]) (fun _ => []) (fun k => ls[i].no.toNat - k) 0 (Nat.zero_le _) (stsub_consI rfl rfl (stsub_consI rfl (by simp) stsub_nil)) ht_nil ?_
              intro k hk K1 hK1
              dsimp only [List.cons_append, List.nil_append]
              have hbd := sum_bd1 (s.take k) fun x hx => hok x (List.mem_of_mem_take hx)
              rw [List.length_take] at hbd
              refine JC_seq ?_
              refine JC_region ?_
              refine JL_pd rfl (det_lss rfl rfl) ?_
              refine JL_nil ?_
              refine JE_seq ?_
              refine JC_seq ?_
              -- stop: cond
              refine JC_if rfl (fun h4 => ?_) (fun h4 => ?_)
              · have hk2 : k < s.length := by omega
                have hsk := hok _ (List.getElem_mem hk2)
                have hts := take_sum hk2
                refine JC_skip ?_
                refine JE_seq ?_
                refine JC_seq ?_
                refine JC_block ?_
                refine JC_seq ?_
                refine JC_region ?_
                refine JL_pd rfl (det_move rfl) ?_
                refine JL_pd rfl (det_assign rfl) ?_
                refine JL_nil ?_
                refine JE_seq ?_
                refine JC_region ?_
                refine JL_pd rfl (det_move rfl) ?_
                refine JL_pd rfl (det_move rfl) ?_
                refine JL_pd rfl (det_move rfl) ?_
                refine JL_dt rfl (det_indexAddr rfl rfl (by first | rfl | omega) (by first | assumption | omega | decide) Try.runUnderlying22 Try.sizeOf3) ?_
                refine JL_dt rfl (det_loadE rfl (by first | assumption | omega | decide) Try.isAgg3 rfl rfl) ?_
                refine JL_pd rfl (det_add rfl rfl ⟨by omega, by omega⟩) ?_
                refine JL_pd rfl (det_assign rfl) ?_
                refine JL_nil ?_
                refine JE_block ?_
                refine JE_seq ?_
                refine JC_region ?_
                refine JL_pd rfl (det_add rfl rfl ⟨by omega, by omega⟩) ?_
                refine JL_pd rfl (det_move rfl) ?_
                refine JL_nil ?_
                -- stop: end
                refine JE_roundF hK1 (k + 1) (by omega) (by omega) (stsub_consI rfl (by omega) (stsub_consI rfl (by omega) stsub_nil)) ht_nil
              · obtain rfl : k = ls[i].no.toNat := by omega
                have hgd := getD_of (s := s) (i := ls[i].no.toNat - 1) (by omega)
                refine JC_exit ?_
                refine JE_seq_exit ?_
                refine JE_then_exit ?_
                refine JE_block_here ?_
                refine JE_seq ?_
                refine JC_seq ?_
                refine JC_draw [] (by kernel_rfl) ?_
                refine JA_pd (i := 0) rfl (by kernel_rfl) rfl rfl (det_move rfl) ?_
                refine JA_pd (i := 1) rfl (by kernel_rfl) rfl rfl (det_fieldAddr rfl fo_94_0) ?_
                refine JA_dt (i := 2) rfl (by kernel_rfl) (by kernel_rfl) rfl rfl (det_loadK rfl Try.isAgg3 rfl) ?_
                refine JA_pd (i := 3) rfl (by kernel_rfl) rfl rfl (det_sub rfl rfl ⟨by omega, by omega⟩) ?_
                refine JA_dt (i := 4) rfl (by kernel_rfl) (by kernel_rfl) rfl rfl (det_indexAddr (i := ls[i].no.toNat - 1) rfl rfl (by omega) (by omega) Try.runUnderlying22 Try.sizeOf3) ?_
                refine JA_dt (i := 5) rfl (by kernel_rfl) (by kernel_rfl) rfl rfl (det_loadE rfl (by first | assumption | omega | decide) Try.isAgg3 rfl rfl) ?_
                refine JA_pd (i := 6) rfl (by kernel_rfl) rfl rfl (det_fieldAddr rfl fo_94_1) ?_
                refine JA_dt (i := 7) rfl (by kernel_rfl) (by kernel_rfl) rfl rfl (det_loadK rfl Try.isAgg3 rfl) ?_
                refine JA_pd (i := 8) rfl (by kernel_rfl) rfl rfl (det_neq rfl rfl) ?_
                refine JA_pd (i := 9) rfl (by kernel_rfl) rfl rfl (det_move rfl) ?_
                -- stop: guard 9
                by_cases h5 : s[ls[i].no.toNat - 1]'(by omega) = ls[i].coins
                · refine JA_is (d0 := 71) false rfl (by rw [decide_eq_true h5]; rfl) (fun g5 => ?_)
                  refine JA_gpd (i := 10) rfl (by kernel_rfl) rfl rfl rfl rfl g5 (det_move rfl) ?_
                  refine JA_gpd (i := 11) rfl (by kernel_rfl) rfl rfl rfl rfl g5 (det_fieldAddr rfl fo_94_2) ?_
                  refine JA_gdt (i := 12) rfl (by kernel_rfl) (by kernel_rfl) rfl rfl rfl rfl g5 (det_loadK rfl Try.isAgg3 rfl) ?_
                  refine JA_gpd (i := 13) rfl (by kernel_rfl) rfl rfl rfl rfl g5 (det_neq rfl rfl) ?_
                  refine JA_pd (i := 14) rfl (by kernel_rfl) rfl rfl (det_pick_f rfl g5 rfl) ?_
                  refine JA_done (by kernel_rfl) ?_
                  refine JE_seq ?_
                  -- stop: cond
                  refine JC_ifn rfl (fun h6 => ?_) (fun h6 => ?_)
                  · refine JC_seq ?_
                    refine JC_region ?_
                    refine JL_pd rfl (det_assign rfl) ?_
                    refine JL_nil ?_
                    refine JE_seq ?_
                    refine JC_ret ?_
                    refine JE_block_ret ?_
                    refine JE_seq_ret ?_
                    refine JE_then_ret ?_
                    refine JE_block_ret ?_
                    refine JE_seq_ret ?_
                    -- stop: out
                    refine JE_out (.inl rfl) () (results1 Try.results50 (res_tmp rfl)) (by unfold fitsB; rw [all_no hi2 (show fitM s ls[i] = false by unfold fitM; rw [decide_eq_false h6, Bool.and_false]), Bool.and_false, Bool.and_false]) (List.Perm.refl _) (fun _ _ => trivial)
                  · refine JC_skip ?_
                    refine JE_block ?_
                    refine JE_seq ?_
                    refine JC_region ?_
                    refine JL_pd rfl (det_add rfl rfl ⟨by omega, by omega⟩) ?_
                    refine JL_pd rfl (det_move rfl) ?_
                    refine JL_nil ?_
                    -- stop: end
                    refine JE_roundF hK (i + 1) ⟨by omega, all_snoc hi2 hb (by unfold fitM; rw [hgd, decide_eq_true h5, decide_eq_true h6]; rfl)⟩ (by omega) (stsub_consI rfl (by omega) stsub_nil) ht_nil
                · skip
                  refine JA_is (d0 := 71) true rfl (by rw [decide_eq_false h5]; rfl) (fun g5 => ?_)
                  refine JA_skip (i := 10) rfl (by kernel_rfl) rfl rfl rfl rfl g5 ?_
                  refine JA_skip (i := 11) rfl (by kernel_rfl) rfl rfl rfl rfl g5 ?_
                  refine JA_skip (i := 12) rfl (by kernel_rfl) rfl rfl rfl rfl g5 ?_
                  refine JA_skip (i := 13) rfl (by kernel_rfl) rfl rfl rfl rfl g5 ?_
                  refine JA_pd (i := 14) rfl (by kernel_rfl) rfl rfl (det_pick_t rfl g5 rfl) ?_
                  refine JA_done (by kernel_rfl) ?_
                  refine JE_seq ?_
                  refine JC_condT rfl rfl ?_
                  refine JC_seq ?_
                  refine JC_region ?_
                  refine JL_pd rfl (det_assign rfl) ?_
                  refine JL_nil ?_
                  refine JE_seq ?_
                  refine JC_ret ?_
                  refine JE_block_ret ?_
                  refine JE_seq_ret ?_
                  refine JE_then_ret ?_
                  refine JE_block_ret ?_
                  refine JE_seq_ret ?_
                  -- stop: out
                  refine JE_out (.inl rfl) () (results1 Try.results50 (res_tmp rfl)) (by unfold fitsB; rw [all_no hi2 (show fitM s ls[i] = false by unfold fitM; rw [hgd, decide_eq_false h5, Bool.false_and]), Bool.and_false, Bool.and_false]) (List.Perm.refl _) (fun _ _ => trivial)
            · obtain rfl : i = ls.length := by omega
              rw [List.take_length] at hb
              refine JC_exit ?_
              refine JE_seq_exit ?_
              refine JE_then_exit ?_
              refine JE_block_here ?_
              refine JE_seq ?_
              refine JC_seq ?_
              refine JC_region ?_
              refine JL_pd rfl (det_assign rfl) ?_
              refine JL_nil ?_
              refine JE_seq ?_
              refine JC_ret ?_
              -- stop: out
              refine JE_out (.inl rfl) () (results1 Try.results50 (res_tmp rfl)) (by unfold fitsB; rw [q4, hb, decide_eq_true q3]; rfl) (List.Perm.refl _) (fun _ _ => trivial)
        · skip
          refine JL_is (d0 := 38) true rfl (by rw [decide_eq_false q3]; rfl) (fun g3 => ?_)
          refine JL_skip rfl rfl g3 rfl ?_
          refine JL_skip rfl rfl g3 rfl ?_
          refine JL_skip rfl rfl g3 rfl ?_
          refine JL_skip rfl rfl g3 rfl ?_
          refine JL_pd rfl (det_pick_t rfl g3 rfl) ?_
          refine JL_nil ?_
          refine JE_seq ?_
          refine JC_condT rfl rfl ?_
          refine JC_seq ?_
          refine JC_region ?_
          refine JL_pd rfl (det_assign rfl) ?_
          refine JL_nil ?_
          refine JE_seq ?_
          refine JC_ret ?_
          refine JE_seq_ret ?_
          -- stop: out
          refine JE_out (.inl rfl) () (results1 Try.results50 (res_tmp rfl)) (by unfold fitsB; rw [decide_eq_false q3]; rfl) (List.Perm.refl _) (fun _ _ => trivial)
      · rw [Bool.not_eq_true] at q2
        refine JL_is (d0 := 32) true rfl (by rw [q2]; rfl) (fun g2 => ?_)
        refine JL_skip rfl rfl g2 rfl ?_
        refine JL_skip rfl rfl g2 rfl ?_
        refine JL_skip rfl rfl g2 rfl ?_
        refine JL_skip rfl rfl g2 rfl ?_
        refine JL_pd rfl (det_pick_t rfl g2 rfl) ?_
        refine JL_pd rfl (det_move rfl) ?_
        refine JL_skip rfl rfl rfl rfl ?_
        refine JL_skip rfl rfl rfl rfl ?_
        refine JL_skip rfl rfl rfl rfl ?_
        refine JL_skip rfl rfl rfl rfl ?_
        refine JL_pd rfl (det_pick_t rfl rfl rfl) ?_
        refine JL_nil ?_
        refine JE_seq ?_
        refine JC_condT rfl rfl ?_
        refine JC_seq ?_
        refine JC_region ?_
        refine JL_pd rfl (det_assign rfl) ?_
        refine JL_nil ?_
        refine JE_seq ?_
        refine JC_ret ?_
        refine JE_seq_ret ?_
        -- stop: out
        refine JE_out (.inl rfl) () (results1 Try.results50 (res_tmp rfl)) (by rw [show mfE ls = 1 from (if_neg q1).trans (if_pos q2)]; rfl) (List.Perm.refl _) (fun _ _ => trivial)
end Go.Proofs.Ytjbmkdbgobmclaa

/- Walks of bill: Shows. -/
namespace Go.Proofs.Ytjbmkdbgobmclaa
open Go.RowKit Go.Shelf

/-- What is left of a gap behind its first sales, if each takes as much as it can; these sales. -/
def fillR (n c : Int) : Nat → Int
  | 0 => c
  | i + 1 => fillR n c i - min 1000 (fillR n c i - (n - i - 1))
def fillN (n c : Int) : Nat → List Int
  | 0 => []
  | i + 1 => fillN n c i ++ [min 1000 (fillR n c i - (n - i - 1))]
theorem fillN_len (n c : Int) : ∀ i, (fillN n c i).length = i
  | 0 => rfl
  | i + 1 => by rw [fillN, List.length_append, fillN_len n c i]; rfl
theorem fill_inv {n c : Int} (h1 : n ≤ c) (h2 : c ≤ n * 1000) : ∀ i : Nat, (i : Int) ≤ n → n - i ≤ fillR n c i ∧ fillR n c i ≤ (n - i) * 1000 ∧ (fillN n c i).sum = c - fillR n c i ∧ ∀ x ∈ fillN n c i, okS x
  | 0, _ => ⟨by simp only [fillR]; omega, by simp only [fillR]; omega, by simp [fillN, fillR], by simp [fillN]⟩
  | i + 1, hi => by
    obtain ⟨i1, i2, i3, i4⟩ := fill_inv h1 h2 i (by omega)
    rw [fillR, fillN, List.sum_append, i3]
    refine ⟨by omega, by omega, by simp; omega, fun x hx => ?_⟩
    rcases List.mem_append.1 hx with hx | hx
    · exact i4 x hx
    · rw [List.mem_singleton.1 hx]; unfold okS; omega
theorem snocI_len (xs : List Int) (y : Int) : (xs ++ [y]).length = xs.length + 1 := by rw [List.length_append]; rfl
theorem snocI_flat (xs : List Int) (y : Int) : (xs ++ [y]).flatMap encI = xs.flatMap encI ++ encI y := by rw [List.flatMap_append]; simp
def fillG (g : Gp) : List Int := fillN (manyG g) g.co (manyG g).toNat
theorem fillG_ok {g : Gp} (h : okG g = true) : ((fillG g).length : Int) = manyG g ∧ (fillG g).sum = g.co ∧ ∀ x ∈ fillG g, okS x := by
  obtain ⟨h1, h2, h3⟩ := okG_iff.1 h
  have hn : ((manyG g).toNat : Int) = manyG g := by omega
  obtain ⟨i1, i2, i3, i4⟩ := fill_inv h2 h3 (manyG g).toNat (by omega)
  unfold fillG
  refine ⟨by rw [fillN_len]; omega, by rw [i3]; omega, i4⟩
def showG (z : Gp × Ms) : List Int := fillG z.1 ++ [z.2.coins]
def showsL (ts : List Ms) : List Int := (gapsL ts).flatMap showG
theorem shows_go : ∀ (ts : List Ms) (last : Ms), ((gapsF last ts).all fun z => okG z.1) = true → FitF last ts ((gapsF last ts).flatMap showG)
  | [], _, _ => rfl
  | m :: ts, last, h => by
    unfold gapsF at h ⊢
    rw [List.all_cons, Bool.and_eq_true] at h
    obtain ⟨h1, h2, h3⟩ := fillG_ok h.1
    refine ⟨fillG (gapOf last m), (gapsF m ts).flatMap showG, ?_, h1, h2, h3, shows_go ts m h.2⟩
    rw [List.flatMap_cons]
    unfold showG
    simp
theorem shows_fit {l : List Ms} (hV : ∀ m ∈ l, VMs m) (hf : fitB (srtL l) = true) : Fits l (showsL (srtL l)) := (fits_iff hV).2 (shows_go (srtL l) zM hf)
theorem showG_len {z : Gp × Ms} (h : gapBd z.1) : (showG z).length ≤ 2002 := by
  unfold showG fillG
  rw [List.length_append, fillN_len]
  obtain ⟨h1, h2, h3, h4, _⟩ := h
  simp only [List.length_cons, List.length_nil]
  unfold manyG
  omega
theorem show_len : ∀ (p : List (Gp × Ms)), (∀ z ∈ p, gapBd z.1) → (p.flatMap showG).length ≤ 2002 * p.length
  | [], _ => by simp
  | z :: p, h => by
    have h1 := showG_len (h z (by simp))
    have h2 := show_len p fun z hz => h z (by simp [hz])
    rw [List.flatMap_cons, List.length_append, List.length_cons]
    omega
set_option maxRecDepth 100000 in
theorem Shows_je (a : Option Addr) (c : Nat) (l : List Ms) (hl : l.length ≤ 1000) (h : readE l ≠ 0) : Cv Try.prog 48 [.slice a l.length c] (KSl a l.length c encM l) (.tuple #[.slice none 0 0, I (readE l)]) := by
  have hr := read_je a c l hl h
  generalize readE l = E at h hr
  refine Cx_of Try.func48 rfl Try.ntmps48 rfl fun w0 M0 => ?_
  refine JC_seq ?_
  refine JC_region ?_
  refine JL_pd rfl (det_assign rfl) ?_
  refine JL_pd rfl (det_assign rfl) ?_
  refine JL_nil ?_
  refine JE_seq ?_
  refine JC_seq ?_
  refine JC_region ?_
  refine JL_pd rfl (det_move rfl) ?_
  refine JL_step rfl rfl rfl (jo_callv rfl rfl Try.call58 rfl (hr)) fun _ => ?_
  refine JL_pd rfl (det_move rfl) ?_
  refine JL_pd rfl (det_extract rfl rfl) ?_
  refine JL_pd rfl (det_extract rfl rfl) ?_
  refine JL_step rfl rfl rfl (jo_alloc0 Try.zeroValue101 rfl) fun b4 => ?_
  refine JL_step0 rfl rfl (jo_store rfl rfl rfl (by first | (simp only [splice_norm]; done) | (simp only [splice_norm]; rfl) | rfl) Try.sizeOf101 rfl rfl) fun _ => ?_
  refine JL_pd rfl (det_assign rfl) ?_
  refine JL_nil ?_
  refine JE_seq ?_
  refine JC_seq ?_
  refine JC_seq ?_
  refine JC_region ?_
  refine JL_pd rfl (det_move rfl) ?_
  refine JL_pd rfl (det_neq rfl rfl) ?_
  refine JL_nil ?_
  refine JE_seq ?_
  -- stop: cond
  refine JC_ifn rfl (fun h1 => ?_) (fun h1 => ?_)
  · refine JC_seq ?_
    refine JC_region ?_
    refine JL_pd rfl (det_move rfl) ?_
    refine JL_pd rfl (det_assign rfl) ?_
    refine JL_pd rfl (det_assign rfl) ?_
    refine JL_nil ?_
    refine JE_seq ?_
    refine JC_ret ?_
    refine JE_seq_ret ?_
    -- stop: out
    refine JE_out (.inl rfl) () (results2 Try.results48 (res_tmp rfl) (res_tmp rfl)) rfl (List.Perm.refl _) (fun _ _ => trivial)
  · exact absurd h1 h
set_option maxRecDepth 100000 in
set_option maxHeartbeats 1000000 in
theorem Shows_jo (a : Option Addr) (c : Nat) (l : List Ms) (hl : l.length ≤ 1000) (h : readE l = 0) : Cr Try.prog 48 [.slice a l.length c] (KSl a l.length c encM l) (fun q : Option Addr × Nat => .tuple #[.slice q.1 (showsL (srtL l)).length q.2, I 0]) (fun q => KSl q.1 (showsL (srtL l)).length q.2 encI (showsL (srtL l))) := by
  have hr := read_jo a c l hl h
  obtain ⟨hln, hV, hfit⟩ := read_of h
  have hts := srt_len l
  have htV : ∀ m ∈ srtL l, VMs m := fun m hm => hV m (srt_mem.1 hm)
  generalize srtL l = ts at hr hts htV hfit
  have hbds := gaps_bd htV
  have hoks : ∀ z ∈ gapsL ts, okG z.1 = true := fun z hz => List.all_eq_true.1 hfit z hz
  have hgl : (gapsL ts).length = ts.length := gapsF_len ts zM
  refine Cx_of Try.func48 rfl Try.ntmps48 rfl fun w0 M0 => ?_
  refine JC_seq ?_
  refine JC_region ?_
  refine JL_pd rfl (det_assign rfl) ?_
  refine JL_pd rfl (det_assign rfl) ?_
  refine JL_nil ?_
  refine JE_seq ?_
  refine JC_seq ?_
  refine JC_region ?_
  refine JL_pd rfl (det_move rfl) ?_
  refine JL_step rfl rfl rfl (jo_call rfl rfl Try.call58 rfl (hr)) fun x12 => ?_
  refine JL_pd rfl (det_move rfl) ?_
  refine JL_pd rfl (det_extract rfl rfl) ?_
  refine JL_pd rfl (det_extract rfl rfl) ?_
  refine JL_step rfl rfl rfl (jo_alloc0 Try.zeroValue101 rfl) fun b4 => ?_
  refine JL_step0 rfl rfl (jo_store rfl rfl rfl (by first | (simp only [splice_norm]; done) | (simp only [splice_norm]; rfl) | rfl) Try.sizeOf101 rfl rfl) fun _ => ?_
  refine JL_pd rfl (det_assign rfl) ?_
  refine JL_nil ?_
  refine JE_seq ?_
  refine JC_seq ?_
  refine JC_seq ?_
  refine JC_region ?_
  refine JL_pd rfl (det_move rfl) ?_
  refine JL_pd rfl (det_neq rfl rfl) ?_
  refine JL_nil ?_
  refine JE_seq ?_
  -- stop: cond
  refine JC_ifn rfl (fun h1 => ?_) (fun h1 => ?_)
  · exact absurd rfl h1
  refine JC_skip ?_
  refine JE_seq ?_
  refine JC_seq ?_
  refine JC_region ?_
  refine JL_step rfl rfl rfl (jo_alloc0 Try.zeroValue22 rfl) fun b6 => ?_
  refine JL_nil ?_
  refine JE_seq ?_
  refine JC_seq ?_
  refine JC_seq ?_
  refine JC_region ?_
  refine JL_pd rfl (det_fieldAddr rfl fo_101_0) ?_
  refine JL_dt rfl (det_loadK rfl Try.isAgg99 rfl) ?_
  refine JL_step rfl rfl rfl (jo_call rfl rfl Try.call59 rfl (gaps_j _ ts.length _)) fun x20 => ?_
  refine JL_nil ?_
  refine JE_seq ?_
  refine JC_block ?_
  -- stop: rangeFunc
  have hit := gaps_it ts x12.1 x12.2 x20 htV (by omega)
  refine JC_keep b4 noFp ?_
  refine JC_nil 3 1 ?_
  refine JC_rangeI (γ := Value × List Int) (β := Nat × Nat) rfl rfl rfl rfl Try.call86 hit (perm2 (bx b6 [.slice none 0 0]) (ow (.slice none 0 0) 3 1 0 [])) (fun w _ h => ⟨Knows.know (F := KBox x20 _) w h, Knows.know (F := KSl x12.1 ts.length x12.2 encM ts) w h⟩) (fun _ => rfl) ?_
    (fun p g => g.2 = p.flatMap showG) (fun _ _ _ => False) (fun g => [bx b6 [g.1], ow g.1 3 1 g.2.length (g.2.flatMap encI)]) (.slice none 0 0, []) rfl rfl
    (fun x t => [(7, pt t.1), (8, pt t.2), (6, pt b6)]) (fun x t => [bx t.1 [I x.1.fr, I x.1.to_, I x.1.co], bx t.2 [I x.2.no, I x.2.coins, I x.2.total]]) ?_ ?_ ?_ ?_
  · show ∀ p ∈ [21, 22], p < 50
    decide
  · intro l' x W K0 hK0
    refine JC_seq ?_
    refine JC_region ?_
    refine JL_step rfl rfl rfl (jo_alloc0 Try.zeroValue108 rfl) fun b7 => ?_
    refine JL_step0 rfl rfl (jo_store rfl rfl rfl (by first | (simp only [splice_norm]; done) | (simp only [splice_norm]; rfl) | rfl) Try.sizeOf108 rfl rfl) fun _ => ?_
    refine JL_nil ?_
    refine JE_seq ?_
    refine JC_region ?_
    refine JL_step rfl rfl rfl (jo_alloc0 Try.zeroValue94 rfl) fun b8 => ?_
    refine JL_step0 rfl rfl (jo_store rfl rfl rfl (by first | (simp only [splice_norm]; done) | (simp only [splice_norm]; rfl) | rfl) Try.sizeOf94 rfl rfl) fun _ => ?_
    refine JL_nil ?_
    -- stop: end
    exact JE_asg (hK0 (b7, b8)) (stsub_cons rfl (stsub_cons rfl (stsub_cons rfl stsub_nil))) (hsub_cons (hsub_cons hsub_nil)) (fun _ h => trivial)
  · rintro l' p x ⟨v, base⟩ ⟨t7, t8⟩ W K1 QX hbase hpx hK1 _
    dsimp only at hbase
    have hxm : x ∈ gapsL ts := hpx.subset (by simp)
    obtain ⟨hgb, hvm⟩ := hbds x hxm
    obtain ⟨k1, k2, k3⟩ := okG_iff.1 (hoks x hxm)
    have hpl : p.length ≤ ts.length := by have := hpx.length_le; rw [List.length_append, List.length_singleton] at this; omega
    have hbl := show_len p fun z hz => (hbds z (hpx.subset (by simp [hz]))).1
    rw [← hbase] at hbl
    have hsn : (p ++ [x]).flatMap showG = base ++ fillN (manyG x.1) x.1.co (manyG x.1).toNat ++ [x.2.coins] := by
      rw [List.flatMap_append, ← hbase, List.flatMap_singleton]; unfold showG fillG; rw [List.append_assoc]
    have hinv := fun i : Nat => fill_inv k2 k3 i
    have hfl := fun i : Nat => fillN_len (manyG x.1) x.1.co i
    have hmn : x.1.to_ = x.1.fr + manyG x.1 - 1 := by unfold manyG; omega
    have g1 := hgb.1
    have g2 := hgb.2.1
    have g3 := hgb.2.2.1
    have g4 := hgb.2.2.2.1
    have g5 := hgb.2.2.2.2.1
    have g6 := hgb.2.2.2.2.2
    generalize hM : manyG x.1 = M at k1 k2 k3 hsn hinv hfl hmn
    obtain ⟨n, rfl⟩ : ∃ n : Nat, M = n := ⟨M.toNat, by omega⟩
    rw [Int.toNat_natCast] at hsn
    have hn : n ≤ 2001 := by omega
    refine JC_block ?_
    refine JC_seq ?_
    refine JC_block ?_
    -- stop: loop
    refine JC_know (R' := KTrue) (fun _ _ => trivial) ?_
    refine JC_loopF (γ := Nat × Value) (fun q => q.1 ≤ n) (fun _ => []) (fun q => [bx t7 [I (x.1.fr + q.1), I x.1.to_, I (fillR n x.1.co q.1)], bx b6 [q.2], ow q.2 3 1 (base ++ fillN n x.1.co q.1).length ((base ++ fillN n x.1.co q.1).flatMap encI)]) (fun q => n - q.1) (0, v) (by simp) stsub_nil (ht_bx (by simp [fillR]) (ht_bx rfl (ht_ow (by simp [fillN]) (by simp [fillN]) ht_nil))) ?_
    rintro ⟨i, u⟩ hi K hK
    dsimp only [List.cons_append, List.nil_append] at hi ⊢
    have htl : (base ++ fillN n x.1.co i).length ≤ 100000 := by rw [List.length_append, hfl]; omega
    obtain ⟨v1, v2, v3, v4⟩ := hinv i (by omega)
    have v5 := (sum_bd1 _ v4).1
    refine JC_seq ?_
    refine JC_seq ?_
    refine JC_region ?_
    refine JL_pd rfl (det_fieldAddr rfl fo_108_0) ?_
    refine JL_dt rfl (det_loadK rfl Try.isAgg3 rfl) ?_
    refine JL_pd rfl (det_fieldAddr rfl fo_108_1) ?_
    refine JL_dt rfl (det_loadK rfl Try.isAgg3 rfl) ?_
    refine JL_pd rfl (det_leq rfl rfl) ?_
    refine JL_nil ?_
    refine JE_seq ?_
    -- stop: cond
    refine JC_if rfl (fun h2 => ?_) (fun h2 => ?_)
    · have hi2 : i < n := by omega
      have hmj := much_j ⟨x.1.fr + i, x.1.to_, fillR n x.1.co i⟩ 1 (by unfold gapBd; simp only; omega) (by omega)
      have hmv : muchG ⟨x.1.fr + i, x.1.to_, fillR n x.1.co i⟩ 1 = min 1000 (fillR n x.1.co i - (n - i - 1)) := by unfold muchG manyG; simp only; omega
      rw [hmv] at hmj
      have hst : fillN n x.1.co (i + 1) = fillN n x.1.co i ++ [min 1000 (fillR n x.1.co i - (n - i - 1))] := rfl
      have hrt : fillR n x.1.co (i + 1) = fillR n x.1.co i - min 1000 (fillR n x.1.co i - (n - i - 1)) := rfl
      refine JC_skip ?_
      refine JE_seq ?_
      refine JC_block ?_
      refine JC_seq ?_
      refine JC_region ?_
      refine JL_dt rfl (det_loadKA rfl Try.isAgg108 Try.sizeOf108 rfl rfl) ?_
      refine JL_step rfl rfl rfl (jo_callv rfl rfl Try.call63 rfl (hmj)) fun _ => ?_
      refine JL_pd rfl (det_assign rfl) ?_
      refine JL_nil ?_
      refine JE_seq ?_
      refine JC_seq ?_
      refine JC_region ?_
      refine JL_dt rfl (det_loadK rfl Try.isAgg22 rfl) ?_
      refine JL_pd rfl (det_move rfl) ?_
      refine JL_step rfl rfl rfl (jo_buildSlice rfl (bsl_22_1_0 _)) fun b32 => ?_
      refine JL_step rfl rfl rfl (jo_append el_22 rfl rfl rfl rfl (by omega)) fun b33 => ?_
      refine JL_step0 rfl rfl (jo_store rfl rfl rfl (by first | (simp only [splice_norm]; done) | (simp only [splice_norm]; rfl) | rfl) Try.sizeOf22 rfl rfl) fun _ => ?_
      refine JL_nil ?_
      refine JE_seq ?_
      refine JC_region ?_
      refine JL_pd rfl (det_fieldAddr rfl fo_108_0) ?_
      refine JL_dt rfl (det_loadK rfl Try.isAgg3 rfl) ?_
      refine JL_pd rfl (det_add rfl rfl ⟨by omega, by omega⟩) ?_
      refine JL_pd rfl (det_fieldAddr rfl fo_108_1) ?_
      refine JL_dt rfl (det_loadK rfl Try.isAgg3 rfl) ?_
      refine JL_pd rfl (det_fieldAddr rfl fo_108_2) ?_
      refine JL_dt rfl (det_loadK rfl Try.isAgg3 rfl) ?_
      refine JL_pd rfl (det_move rfl) ?_
      refine JL_pd rfl (det_sub rfl rfl ⟨by omega, by omega⟩) ?_
      refine JL_pd rfl (det_build rfl (bld_108_0_1_2 _ _ _)) ?_
      refine JL_step0 rfl rfl (jo_store rfl rfl rfl (by first | (simp only [splice_norm]; done) | (simp only [splice_norm]; rfl) | rfl) Try.sizeOf108 rfl rfl) fun _ => ?_
      refine JL_nil ?_
      refine JE_block ?_
      -- stop: end
      refine JE_roundF hK (i + 1, .slice (some ⟨b33.1, 0, none⟩) ((base ++ fillN n x.1.co i).length + 1) b33.2) (by simp only; omega) (by simp only; omega) stsub_nil (ht_bx (by simp only; rw [hrt, show x.1.fr + ((i + 1 : Nat) : Int) = x.1.fr + i + 1 from by omega]) (ht_bx rfl (ht_ow (by simp only; rw [hst, ← List.append_assoc, snocI_len]) (by simp only; rw [hst, ← List.append_assoc, snocI_flat]; rfl) ht_nil)))
    · obtain rfl : i = n := by omega
      refine JC_exit ?_
      refine JE_seq_exit ?_
      refine JE_then_exit ?_
      refine JE_block_here ?_
      refine JE_seq ?_
      refine JC_region ?_
      refine JL_dt rfl (det_loadK rfl Try.isAgg22 rfl) ?_
      refine JL_pd rfl (det_fieldAddr rfl fo_94_1) ?_
      refine JL_dt rfl (det_loadK rfl Try.isAgg3 rfl) ?_
      refine JL_step rfl rfl rfl (jo_buildSlice rfl (bsl_22_1_0 _)) fun b47 => ?_
      refine JL_step rfl rfl rfl (jo_append el_22 rfl rfl rfl rfl (by omega)) fun b48 => ?_
      refine JL_step0 rfl rfl (jo_store rfl rfl rfl (by first | (simp only [splice_norm]; done) | (simp only [splice_norm]; rfl) | rfl) Try.sizeOf22 rfl rfl) fun _ => ?_
      refine JL_nil ?_
      refine JE_block ?_
      -- stop: end
      refine JE_next (fun st' R' a' W' => hK1 (.slice (some ⟨b48.1, 0, none⟩) ((base ++ fillN i x.1.co i).length + 1) b48.2, base ++ fillN i x.1.co i ++ [x.2.coins]) (by simp only; rw [hsn]) st' R' a' W') (ht_sub (ht_bx rfl (ht_ow (by rw [snocI_len]) (by rw [snocI_flat]; rfl) ht_nil)))
  · rintro ⟨v, base⟩ hbase
    dsimp only at hbase
    obtain rfl : base = showsL ts := hbase
    refine JE_block ?_
    refine JE_seq ?_
    refine JC_seq ?_
    refine JC_region ?_
    refine JL_dt rfl (det_loadK rfl Try.isAgg22 rfl) ?_
    refine JL_pd rfl (det_assign rfl) ?_
    refine JL_pd rfl (det_assign rfl) ?_
    refine JL_nil ?_
    refine JE_seq ?_
    refine JC_ret ?_
    -- stop: out
    refine JE_slice (enc := encI) (v := v) (showsL ts) noFp rfl rfl ?_
    rintro la lc rfl
    refine JE_out (.inl rfl) (la, lc) (results2 Try.results48 (res_tmp rfl) (res_tmp rfl)) rfl (List.Perm.refl _) (fun w h => h.1)
  · rintro cd p g _ h
    exact h.elim
end Go.Proofs.Ytjbmkdbgobmclaa
