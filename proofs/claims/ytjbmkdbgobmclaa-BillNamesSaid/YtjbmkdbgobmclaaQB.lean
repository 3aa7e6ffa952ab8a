/- Own texts, laid together: B30 B33. Nothing is asked. -/
import Derived.Test.YtjbmkdbgobmclaaQA
import Derived.Test.YtjbmkdbgobmclaaQ9
set_option linter.unusedSimpArgs false
set_option linter.unusedVariables false
/- Walks of bill and of its reference: do sales fit? -/
namespace Go.Proofs.Ytjbmkdbgobmclaa
open Go.RowKit Go.Shelf

def fitM (s : List Int) (m : Ms) : Bool := decide (s.getD (m.no.toNat - 1) 0 = m.coins) && decide ((s.take m.no.toNat).sum = m.total)
def fitsB (l : List Ms) (s : List Int) : Bool := decide ((s.length : Int) = lastM l) && (s.all (fun n => inI n 1 1000) && l.all (fitM s))
theorem fitsB_iff {l : List Ms} {s : List Int} (hV : ∀ m ∈ l, VMs m) : fitsB l s = true ↔ Fits l s := by
  unfold fitsB fitM
  simp only [Bool.and_eq_true, decide_eq_true_eq, List.all_eq_true, inI_iff]
  constructor
  · rintro ⟨h1, h2, h3⟩
    refine ⟨h1, h2, fun m hm => ?_, fun m hm => (h3 m hm).2⟩
    have h4 := (hV m hm).n0
    have h5 := lastM_le hm
    have h6 := (h3 m hm).1
    rw [List.getD_eq_getElem?_getD, List.getElem?_eq_getElem (by omega)] at h6
    rw [List.getElem?_eq_getElem (by omega)]
    simpa using h6
  · intro h
    refine ⟨h.len, h.ok, fun m hm => ⟨?_, h.sum m hm⟩⟩
    rw [List.getD_eq_getElem?_getD, h.at_ m hm]; rfl
theorem getD_of {s : List Int} {i : Nat} (h : i < s.length) : s.getD i 0 = s[i] := by rw [List.getD_eq_getElem?_getD, List.getElem?_eq_getElem h]; rfl
theorem sum_bd1 : ∀ (l : List Int), (∀ x ∈ l, 1 ≤ x ∧ x ≤ 1000) → 0 ≤ l.sum ∧ l.sum ≤ 1000 * l.length := fun l h => sum_bd l fun x hx => by have := h x hx; omega
set_option maxRecDepth 100000 in
set_option maxHeartbeats 1000000 in
theorem Fit_j (a : Option Addr) (c : Nat) (ls : List Ms) (sa : Option Addr) (sc : Nat) (s : List Int) (hl : ls.length ≤ 1000) (hV : ∀ m ∈ ls, VMs m) : Cv Try.prog 52 [.slice a ls.length c, .slice sa s.length sc] (KAnd (KSl a ls.length c encM ls) (KSl sa s.length sc encI s)) (.bool (fitsB ls s)) := by
  have hlj := Last_j a c ls hl
  have h60 := lastM_60 hV
  refine Cx_of Try.func52 rfl Try.ntmps52 rfl fun w0 M0 => ?_
  refine JC_seq ?_
  refine JC_region ?_
  refine JL_pd rfl (det_assign rfl) ?_
  refine JL_nil ?_
  refine JE_seq ?_
  refine JC_seq ?_
  refine JC_seq ?_
  refine JC_region ?_
  refine JL_pd rfl (det_move rfl) ?_
  refine JL_pd rfl (det_len rfl Try.runUnderlying22) ?_
  refine JL_pd rfl (det_move rfl) ?_
  refine JL_step rfl rfl rfl (jo_callv rfl rfl Try.call28 rfl (hlj)) fun _ => ?_
  refine JL_pd rfl (det_neq rfl rfl) ?_
  refine JL_nil ?_
  refine JE_seq ?_
  -- stop: cond
  refine JC_ifn rfl (fun h1 => ?_) (fun h1 => ?_)
  · refine JC_seq ?_
    refine JC_region ?_
    refine JL_pd rfl (det_assign rfl) ?_
    refine JL_nil ?_
    refine JE_seq ?_
    refine JC_ret ?_
    refine JE_seq_ret ?_
    -- stop: out
    refine JE_out (.inl rfl) () (results1 Try.results52 (res_tmp rfl)) (by unfold fitsB; rw [decide_eq_false h1]; rfl) (List.Perm.refl _) (fun _ _ => trivial)
  · have h1 : (s.length : Int) = lastM ls := h1
    refine JC_skip ?_
    refine JE_seq ?_
    refine JC_seq ?_
    refine JC_seq ?_
    refine JC_region ?_
    refine JL_pd rfl (det_assign rfl) ?_
    refine JL_nil ?_
    refine JE_seq ?_
    refine JC_block ?_
    -- stop: loop
    refine JC_loopF (γ := Nat) (fun i => i ≤ s.length ∧ (s.take i).all (fun n => inI n 1 1000) = true) (fun i => [(5, I i)]) (fun _ => []) (fun i => s.length - i) 0 ⟨Nat.zero_le _, rfl⟩ (stsub_consI rfl rfl stsub_nil) ht_nil ?_
    rintro i ⟨hi, ha⟩ K hK
    dsimp only [List.cons_append, List.nil_append]
    refine JC_seq ?_
    refine JC_seq ?_
    refine JC_region ?_
    refine JL_pd rfl (det_move rfl) ?_
    refine JL_pd rfl (det_move rfl) ?_
    refine JL_pd rfl (det_len rfl Try.runUnderlying22) ?_
    refine JL_pd rfl (det_lss rfl rfl) ?_
    refine JL_nil ?_
    refine JE_seq ?_
    -- stop: cond
    refine JC_if rfl (fun h2 => ?_) (fun h2 => ?_)
    · have hi2 : i < s.length := by omega
      refine JC_skip ?_
      refine JE_seq ?_
      refine JC_seq ?_
      refine JC_block ?_
      refine JC_seq ?_
      refine JC_region ?_
      refine JL_pd rfl (det_move rfl) ?_
      refine JL_pd rfl (det_move rfl) ?_
      refine JL_dt rfl (det_indexAddr rfl rfl (by first | rfl | omega) (by first | assumption | omega | decide) Try.runUnderlying22 Try.sizeOf3) ?_
      refine JL_dt rfl (det_loadE rfl (by first | assumption | omega | decide) Try.isAgg3 rfl rfl) ?_
      refine JL_step rfl rfl rfl (jo_callv rfl rfl Try.call27 rfl (In_j _ _ _)) fun _ => ?_
      refine JL_pd rfl (det_not rfl) ?_
      refine JL_nil ?_
      refine JE_seq ?_
      -- stop: cond
      refine JC_cond rfl (fun h3 => ?_) (fun h3 => ?_)
      · simp only [Bool.not_eq_true'] at h3
        refine JC_seq ?_
        refine JC_region ?_
        refine JL_pd rfl (det_assign rfl) ?_
        refine JL_nil ?_
        refine JE_seq ?_
        refine JC_ret ?_
        refine JE_block_ret ?_
        refine JE_seq_ret ?_
        refine JE_then_ret ?_
        refine JE_block_ret ?_
        refine JE_seq_ret ?_
        -- stop: out
        refine JE_out (.inl rfl) () (results1 Try.results52 (res_tmp rfl)) (by unfold fitsB; rw [all_no hi2 h3, Bool.false_and, Bool.and_false]) (List.Perm.refl _) (fun _ _ => trivial)
      · simp only [Bool.not_eq_false'] at h3
        refine JC_skip ?_
        refine JE_block ?_
        refine JE_seq ?_
        refine JC_region ?_
        refine JL_pd rfl (det_move rfl) ?_
        refine JL_pd rfl (det_add rfl rfl ⟨by omega, by omega⟩) ?_
        refine JL_pd rfl (det_assign rfl) ?_
        refine JL_nil ?_
        -- stop: end
        refine JE_roundF hK (i + 1) ⟨by omega, all_snoc hi2 ha h3⟩ (by omega) (stsub_consI rfl (by omega) stsub_nil) ht_nil
    · obtain rfl : i = s.length := by omega
      rw [List.take_length] at ha
      have hok : ∀ x ∈ s, 1 ≤ x ∧ x ≤ 1000 := fun x hx => inI_iff.1 (List.all_eq_true.1 ha x hx)
      refine JC_exit ?_
      refine JE_seq_exit ?_
      refine JE_then_exit ?_
      refine JE_block_here ?_
      refine JE_seq ?_
      refine JC_seq ?_
      refine JC_seq ?_
      refine JC_region ?_
      refine JL_pd rfl (det_assign rfl) ?_
      refine JL_nil ?_
      refine JE_seq ?_
      refine JC_block ?_
      -- stop: loop
      refine JC_loopF (γ := Nat) (fun i => i ≤ ls.length ∧ (ls.take i).all (fitM s) = true) (fun i => [(6, I i)]) (fun _ => []) (fun i => ls.length - i) 0 ⟨Nat.zero_le _, rfl⟩ (stsub_consI rfl rfl stsub_nil) ht_nil ?_
      rintro i ⟨hi, hb⟩ K hK
      dsimp only [List.cons_append, List.nil_append]
      refine JC_seq ?_
      refine JC_seq ?_
      refine JC_region ?_
      refine JL_pd rfl (det_move rfl) ?_
      refine JL_pd rfl (det_move rfl) ?_
      refine JL_pd rfl (det_len rfl Try.runUnderlying31) ?_
      refine JL_pd rfl (det_lss rfl rfl) ?_
      refine JL_nil ?_
      refine JE_seq ?_
      -- stop: cond
      refine JC_if rfl (fun h3 => ?_) (fun h3 => ?_)
      · have hi2 : i < ls.length := by omega
        have hm := hV _ (List.getElem_mem hi2)
        have v1 := hm.n0
        have v2 := lastM_le (List.getElem_mem hi2)
        refine JC_skip ?_
        refine JE_seq ?_
        refine JC_seq ?_
        refine JC_block ?_
        refine JC_seq ?_
        refine JC_region ?_
        refine JL_pd rfl (det_assign rfl) ?_
        refine JL_nil ?_
        refine JE_seq ?_
        refine JC_seq ?_
        refine JC_seq ?_
        refine JC_region ?_
        refine JL_pd rfl (det_assign rfl) ?_
        refine JL_nil ?_
        refine JE_seq ?_
        refine JC_block ?_
        -- stop: loop
        refine JC_loopF (γ := Nat) (fun k => k ≤ ls[i].no.toNat) (fun k => [(8, I k), (7, I (s.take k).sum)]) (fun _ => []) (fun k => ls[i].no.toNat - k) 0 (Nat.zero_le _) (stsub_consI rfl rfl (stsub_consI rfl (by simp) stsub_nil)) ht_nil ?_
        intro k hk K1 hK1
        dsimp only [List.cons_append, List.nil_append]
        have hbd := sum_bd1 (s.take k) fun x hx => hok x (List.mem_of_mem_take hx)
        rw [List.length_take] at hbd
        refine JC_seq ?_
        refine JC_seq ?_
        refine JC_region ?_
        refine JL_pd rfl (det_move rfl) ?_
        refine JL_pd rfl (det_move rfl) ?_
        refine JL_pd rfl (det_move rfl) ?_
        refine JL_dt rfl (det_indexAddr rfl rfl (by first | rfl | omega) (by first | assumption | omega | decide) Try.runUnderlying31 Try.sizeOf74) ?_
        refine JL_pd rfl (det_fieldAddrE rfl fo_74_0) ?_
        refine JL_dt rfl (det_loadEk rfl (by first | assumption | omega | decide) Try.isAgg3 rfl rfl) ?_
        refine JL_pd rfl (det_lss rfl rfl) ?_
        refine JL_nil ?_
        refine JE_seq ?_
        -- stop: cond
        refine JC_if rfl (fun h4 => ?_) (fun h4 => ?_)
        · have hk2 : k < s.length := by omega
          have hsk := hok _ (List.getElem_mem hk2)
          have hts := take_sum hk2
          refine JC_skip ?_
          refine JE_seq ?_
          refine JC_seq ?_
          refine JC_block ?_
          refine JC_region ?_
          refine JL_pd rfl (det_move rfl) ?_
          refine JL_pd rfl (det_move rfl) ?_
          refine JL_pd rfl (det_move rfl) ?_
          refine JL_dt rfl (det_indexAddr rfl rfl (by first | rfl | omega) (by first | assumption | omega | decide) Try.runUnderlying22 Try.sizeOf3) ?_
          refine JL_dt rfl (det_loadE rfl (by first | assumption | omega | decide) Try.isAgg3 rfl rfl) ?_
          refine JL_pd rfl (det_add rfl rfl ⟨by omega, by omega⟩) ?_
          refine JL_pd rfl (det_assign rfl) ?_
          refine JL_nil ?_
          refine JE_block ?_
          refine JE_seq ?_
          refine JC_region ?_
          refine JL_pd rfl (det_move rfl) ?_
          refine JL_pd rfl (det_add rfl rfl ⟨by omega, by omega⟩) ?_
          refine JL_pd rfl (det_assign rfl) ?_
          refine JL_nil ?_
          -- stop: end
          refine JE_roundF hK1 (k + 1) (by omega) (by omega) (stsub_consI rfl (by omega) (stsub_consI rfl (by omega) stsub_nil)) ht_nil
        · obtain rfl : k = ls[i].no.toNat := by omega
          have hgd := getD_of (s := s) (i := ls[i].no.toNat - 1) (by omega)
          refine JC_exit ?_
          refine JE_seq_exit ?_
          refine JE_then_exit ?_
          refine JE_block_here ?_
          refine JE_seq ?_
          refine JC_seq ?_
          refine JC_draw [] (by kernel_rfl) ?_
          refine JA_pd (i := 0) rfl (by kernel_rfl) rfl rfl (det_move rfl) ?_
          refine JA_pd (i := 1) rfl (by kernel_rfl) rfl rfl (det_move rfl) ?_
          refine JA_pd (i := 2) rfl (by kernel_rfl) rfl rfl (det_move rfl) ?_
          refine JA_dt (i := 3) rfl (by kernel_rfl) (by kernel_rfl) rfl rfl (det_indexAddr rfl rfl (by first | rfl | omega) (by first | assumption | omega | decide) Try.runUnderlying31 Try.sizeOf74) ?_
          refine JA_pd (i := 4) rfl (by kernel_rfl) rfl rfl (det_fieldAddrE rfl fo_74_0) ?_
          refine JA_dt (i := 5) rfl (by kernel_rfl) (by kernel_rfl) rfl rfl (det_loadEk rfl (by first | assumption | omega | decide) Try.isAgg3 rfl rfl) ?_
          refine JA_pd (i := 6) rfl (by kernel_rfl) rfl rfl (det_sub rfl rfl ⟨by omega, by omega⟩) ?_
          refine JA_dt (i := 7) rfl (by kernel_rfl) (by kernel_rfl) rfl rfl (det_indexAddr (i := ls[i].no.toNat - 1) rfl rfl (by omega) (by omega) Try.runUnderlying22 Try.sizeOf3) ?_
          refine JA_dt (i := 8) rfl (by kernel_rfl) (by kernel_rfl) rfl rfl (det_loadE rfl (by first | assumption | omega | decide) Try.isAgg3 rfl rfl) ?_
          refine JA_pd (i := 9) rfl (by kernel_rfl) rfl rfl (det_move rfl) ?_
          refine JA_pd (i := 10) rfl (by kernel_rfl) rfl rfl (det_move rfl) ?_
          refine JA_dt (i := 11) rfl (by kernel_rfl) (by kernel_rfl) rfl rfl (det_indexAddr rfl rfl (by first | rfl | omega) (by first | assumption | omega | decide) Try.runUnderlying31 Try.sizeOf74) ?_
          refine JA_pd (i := 12) rfl (by kernel_rfl) rfl rfl (det_fieldAddrE rfl fo_74_1) ?_
          refine JA_dt (i := 13) rfl (by kernel_rfl) (by kernel_rfl) rfl rfl (det_loadEk rfl (by first | assumption | omega | decide) Try.isAgg3 rfl rfl) ?_
          refine JA_pd (i := 14) rfl (by kernel_rfl) rfl rfl (det_neq rfl rfl) ?_
          refine JA_pd (i := 15) rfl (by kernel_rfl) rfl rfl (det_move rfl) ?_
          -- stop: guard 15
          by_cases h5 : s[ls[i].no.toNat - 1]'(by omega) = ls[i].coins
          · refine JA_is (d0 := 62) false rfl (by rw [decide_eq_true h5]; rfl) (fun g1 => ?_)
            refine JA_gpd (i := 16) rfl (by kernel_rfl) rfl rfl rfl rfl g1 (det_move rfl) ?_
            refine JA_gpd (i := 17) rfl (by kernel_rfl) rfl rfl rfl rfl g1 (det_move rfl) ?_
            refine JA_gpd (i := 18) rfl (by kernel_rfl) rfl rfl rfl rfl g1 (det_move rfl) ?_
            refine JA_gdt (i := 19) rfl (by kernel_rfl) (by kernel_rfl) rfl rfl rfl rfl g1 (det_indexAddr rfl rfl (by first | rfl | omega) (by first | assumption | omega | decide) Try.runUnderlying31 Try.sizeOf74) ?_
            refine JA_gpd (i := 20) rfl (by kernel_rfl) rfl rfl rfl rfl g1 (det_fieldAddrE rfl fo_74_2) ?_
            refine JA_gdt (i := 21) rfl (by kernel_rfl) (by kernel_rfl) rfl rfl rfl rfl g1 (det_loadEk rfl (by first | assumption | omega | decide) Try.isAgg3 rfl rfl) ?_
            refine JA_gpd (i := 22) rfl (by kernel_rfl) rfl rfl rfl rfl g1 (det_neq rfl rfl) ?_
            refine JA_pd (i := 23) rfl (by kernel_rfl) rfl rfl (det_pick_f rfl g1 rfl) ?_
            refine JA_done (by kernel_rfl) ?_
            refine JE_seq ?_
            -- stop: cond
            refine JC_ifn rfl (fun h6 => ?_) (fun h6 => ?_)
            · refine JC_seq ?_
              refine JC_region ?_
              refine JL_pd rfl (det_assign rfl) ?_
              refine JL_nil ?_
              refine JE_seq ?_
              refine JC_ret ?_
              refine JE_block_ret ?_
              refine JE_seq_ret ?_
              refine JE_then_ret ?_
              refine JE_block_ret ?_
              refine JE_seq_ret ?_
              -- stop: out
              refine JE_out (.inl rfl) () (results1 Try.results52 (res_tmp rfl)) (by unfold fitsB; rw [all_no hi2 (show fitM s ls[i] = false by unfold fitM; rw [decide_eq_false h6, Bool.and_false]), Bool.and_false, Bool.and_false]) (List.Perm.refl _) (fun _ _ => trivial)
            · refine JC_skip ?_
              refine JE_block ?_
              refine JE_seq ?_
              refine JC_region ?_
              refine JL_pd rfl (det_move rfl) ?_
              refine JL_pd rfl (det_add rfl rfl ⟨by omega, by omega⟩) ?_
              refine JL_pd rfl (det_assign rfl) ?_
              refine JL_nil ?_
              -- stop: end
              refine JE_roundF hK (i + 1) ⟨by omega, all_snoc hi2 hb (by unfold fitM; rw [hgd, decide_eq_true h5, decide_eq_true h6]; rfl)⟩ (by omega) (stsub_consI rfl (by omega) stsub_nil) ht_nil
          · skip
            refine JA_is (d0 := 62) true rfl (by rw [decide_eq_false h5]; rfl) (fun g1 => ?_)
            refine JA_skip (i := 16) rfl (by kernel_rfl) rfl rfl rfl rfl g1 ?_
            refine JA_skip (i := 17) rfl (by kernel_rfl) rfl rfl rfl rfl g1 ?_
            refine JA_skip (i := 18) rfl (by kernel_rfl) rfl rfl rfl rfl g1 ?_
            refine JA_skip (i := 19) rfl (by kernel_rfl) rfl rfl rfl rfl g1 ?_
            refine JA_skip (i := 20) rfl (by kernel_rfl) rfl rfl rfl rfl g1 ?_
            refine JA_skip (i := 21) rfl (by kernel_rfl) rfl rfl rfl rfl g1 ?_
            refine JA_skip (i := 22) rfl (by kernel_rfl) rfl rfl rfl rfl g1 ?_
            refine JA_pd (i := 23) rfl (by kernel_rfl) rfl rfl (det_pick_t rfl g1 rfl) ?_
            refine JA_done (by kernel_rfl) ?_
            refine JE_seq ?_
            -- stop: cond
            refine JC_cond rfl (fun h6 => ?_) (fun h6 => ?_)
            · refine JC_seq ?_
              refine JC_region ?_
              refine JL_pd rfl (det_assign rfl) ?_
              refine JL_nil ?_
              refine JE_seq ?_
              refine JC_ret ?_
              refine JE_block_ret ?_
              refine JE_seq_ret ?_
              refine JE_then_ret ?_
              refine JE_block_ret ?_
              refine JE_seq_ret ?_
              -- stop: out
              refine JE_out (.inl rfl) () (results1 Try.results52 (res_tmp rfl)) (by unfold fitsB; rw [all_no hi2 (show fitM s ls[i] = false by unfold fitM; rw [hgd, decide_eq_false h5, Bool.false_and]), Bool.and_false, Bool.and_false]) (List.Perm.refl _) (fun _ _ => trivial)
            · cases h6
      · obtain rfl : i = ls.length := by omega
        rw [List.take_length] at hb
        refine JC_exit ?_
        refine JE_seq_exit ?_
        refine JE_then_exit ?_
        refine JE_block_here ?_
        refine JE_seq ?_
        refine JC_seq ?_
        refine JC_region ?_
        refine JL_pd rfl (det_assign rfl) ?_
        refine JL_nil ?_
        refine JE_seq ?_
        refine JC_ret ?_
        -- stop: out
        refine JE_out (.inl rfl) () (results1 Try.results52 (res_tmp rfl)) (by unfold fitsB; rw [ha, hb, decide_eq_true h1]; rfl) (List.Perm.refl _) (fun _ _ => trivial)
theorem right_j (n : Int) : Cv Try.prog 77 [I n] KTrue (.bool (inI n 1 1000)) := by
  refine Cx_of Try.func77 rfl Try.ntmps77 rfl fun w0 M0 => ?_
  refine JC_seq ?_
  refine JC_region ?_
  refine JL_pd rfl (det_assign rfl) ?_
  refine JL_nil ?_
  refine JE_seq ?_
  refine JC_seq ?_
  refine JC_region ?_
  refine JL_pd rfl (det_move rfl) ?_
  refine JL_step rfl rfl rfl (jo_callv rfl rfl Try.call56 rfl (within_j _ _ _)) fun _ => ?_
  refine JL_pd rfl (det_assign rfl) ?_
  refine JL_nil ?_
  refine JE_seq ?_
  refine JC_ret ?_
  refine JE_out (.inl rfl) () (results1 Try.results77 (res_tmp rfl)) ?_ (List.Perm.refl _) (fun _ _ => trivial)
  rfl
set_option maxRecDepth 100000 in
set_option maxHeartbeats 1000000 in
theorem ProveSales_j (a : Option Addr) (c : Nat) (ls : List Ms) (sa : Option Addr) (sc : Nat) (s : List Int) (hl : ls.length ≤ 1000) (hs : s.length ≤ 1000) : Cv Try.prog 50 [.slice a ls.length c, .slice sa s.length sc] (KAnd (KSl a ls.length c encM ls) (KSl sa s.length sc encI s)) (.bool (decide (mfE ls = 0) && fitsB ls s)) := by
  have hV1 := allM_j msOk 79 [] [] KTrue Try.call79 a c ls (fun x hx => msvalid_j x) (by omega)
  have hV2 := allI_j (fun n => inI n 1 1000) 77 [] [] KTrue Try.call77 (fun n => right_j n) sa sc s (by omega)
  refine Cx_of Try.func50 rfl Try.ntmps50 rfl fun w0 M0 => ?_
  refine JC_seq ?_
  refine JC_region ?_
  refine JL_pd rfl (det_assign rfl) ?_
  refine JL_nil ?_
  refine JE_seq ?_
  refine JC_seq ?_
  refine JC_region ?_
  refine JL_pd rfl (det_assign rfl) ?_
  refine JL_nil ?_
  refine JE_seq ?_
  refine JC_seq ?_
  refine JC_region ?_
  refine JL_pd rfl (det_assign rfl) ?_
  refine JL_nil ?_
  refine JE_seq ?_
  refine JC_seq ?_
  refine JC_seq ?_
  refine JC_region ?_
  refine JL_pd rfl (det_move rfl) ?_
  refine JL_pd rfl (det_len rfl Try.runUnderlying33) ?_
  refine JL_pd rfl (det_move rfl) ?_
  refine JL_nil ?_
  refine JE_seq ?_
  refine JC_block ?_
  -- stop: loop
  refine JC_loopF (γ := Nat) (fun i => i ≤ ls.length) (fun i => [(15, I i), (6, I (lastM (ls.take i)))]) (fun _ => []) (fun i => ls.length - i) 0 (Nat.zero_le _) (stsub_consI rfl rfl (stsub_cons rfl stsub_nil)) ht_nil ?_
  rintro i hi K hK
  dsimp only [List.cons_append, List.nil_append]
  refine JC_seq ?_
  refine JC_region ?_
  refine JL_pd rfl (det_lss rfl rfl) ?_
  refine JL_nil ?_
  refine JE_seq ?_
  refine JC_seq ?_
  -- stop: cond
  refine JC_if rfl (fun h1 => ?_) (fun h1 => ?_)
  · have hi2 : i < ls.length := by omega
    have hsn : lastM (ls.take (i + 1)) = max (lastM (ls.take i)) ls[i].no := by rw [take_snoc hi2, lastM, List.foldl_append]; rfl
    refine JC_skip ?_
    refine JE_seq ?_
    refine JC_seq ?_
    refine JC_block ?_
    refine JC_seq ?_
    refine JC_region ?_
    refine JL_dt rfl (det_indexAddr rfl rfl (by first | rfl | omega) (by first | assumption | omega | decide) Try.runUnderlying33 Try.sizeOf94) ?_
    refine JL_dt rfl (det_loadEA rfl (by first | assumption | omega | decide) Try.isAgg94 Try.sizeOf94 rfl rfl rfl) ?_
    refine JL_step rfl rfl rfl (jo_alloc0 Try.zeroValue94 rfl) fun b8 => ?_
    refine JL_step0 rfl rfl (jo_store rfl rfl rfl (by first | (simp only [splice_norm]; done) | (simp only [splice_norm]; rfl) | rfl) Try.sizeOf94 rfl rfl) fun _ => ?_
    refine JL_nil ?_
    refine JE_seq ?_
    refine JC_region ?_
    refine JL_pd rfl (det_move rfl) ?_
    refine JL_pd rfl (det_fieldAddr rfl fo_94_0) ?_
    refine JL_dt rfl (det_loadK rfl Try.isAgg3 rfl) ?_
    refine JL_pd rfl (det_max rfl rfl) ?_
    refine JL_pd rfl (det_assign rfl) ?_
    refine JL_nil ?_
    refine JE_block ?_
    refine JE_seq ?_
    refine JC_region ?_
    refine JL_pd rfl (det_add rfl rfl ⟨by omega, by omega⟩) ?_
    refine JL_pd rfl (det_move rfl) ?_
    refine JL_nil ?_
    -- stop: end
    refine JE_roundF hK (i + 1) (by omega) (by omega) (stsub_consI rfl (by omega) (stsub_consI rfl hsn.symm stsub_nil)) ht_nil
  · obtain rfl : i = ls.length := by omega
    rw [List.take_length]
    refine JC_exit ?_
    refine JE_seq_exit ?_
    refine JE_then_exit ?_
    refine JE_block_here ?_
    refine JE_seq ?_
    refine JC_seq ?_
    refine JC_seq ?_
    refine JC_region ?_
    refine JL_pd rfl (det_move rfl) ?_
    refine JL_pd rfl (det_len rfl Try.runUnderlying33) ?_
    refine JL_pd rfl (det_gtr rfl rfl) ?_
    refine JL_pd rfl (det_move rfl) ?_
    -- stop: guard 3
    by_cases q1 : 30 < ls.length
    · refine JL_is (d0 := 27) true rfl (by exact decide_eq_true (by omega)) (fun g1 => ?_)
      refine JL_skip rfl rfl g1 rfl ?_
      refine JL_skip rfl rfl g1 rfl ?_
      refine JL_skip rfl rfl g1 rfl ?_
      refine JL_pd rfl (det_pick_t rfl g1 rfl) ?_
      refine JL_pd rfl (det_move rfl) ?_
      refine JL_skip rfl rfl rfl rfl ?_
      refine JL_skip rfl rfl rfl rfl ?_
      refine JL_skip rfl rfl rfl rfl ?_
      refine JL_skip rfl rfl rfl rfl ?_
      refine JL_pd rfl (det_pick_t rfl rfl rfl) ?_
      refine JL_pd rfl (det_move rfl) ?_
      refine JL_skip rfl rfl rfl rfl ?_
      refine JL_skip rfl rfl rfl rfl ?_
      refine JL_skip rfl rfl rfl rfl ?_
      refine JL_skip rfl rfl rfl rfl ?_
      refine JL_pd rfl (det_pick_t rfl rfl rfl) ?_
      refine JL_nil ?_
      refine JE_seq ?_
      refine JC_condT rfl rfl ?_
      refine JC_seq ?_
      refine JC_region ?_
      refine JL_pd rfl (det_assign rfl) ?_
      refine JL_nil ?_
      refine JE_seq ?_
      refine JC_ret ?_
      refine JE_seq_ret ?_
      -- stop: out
      refine JE_out (.inl rfl) () (results1 Try.results50 (res_tmp rfl)) (by rw [show mfE ls = 3 from if_pos q1]; rfl) (List.Perm.refl _) (fun _ _ => trivial)
    · skip
      refine JL_is (d0 := 27) false rfl (by exact decide_eq_false (by omega)) (fun g1 => ?_)
      refine JL_guard rfl rfl g1 ?_
      refine JL_pd rfl (det_move rfl) ?_
      refine JL_guard rfl rfl g1 ?_
      refine JL_step rfl rfl rfl (jo_callv rfl rfl Try.call78 rfl (hV1)) fun _ => ?_
      refine JL_guard rfl rfl g1 ?_
      refine JL_pd rfl (det_not rfl) ?_
      refine JL_pd rfl (det_pick_f rfl g1 rfl) ?_
      refine JL_pd rfl (det_move rfl) ?_
      -- stop: guard 8
      by_cases q2 : ls.all msOk = true
      · have hmf : mfE ls = 0 := by unfold mfE; rw [if_neg q1, if_neg (by rw [q2]; decide)]
        obtain ⟨_, hV⟩ := mfE_of hmf
        have h60 := lastM_60 hV
        rw [hmf, decide_eq_true rfl, Bool.true_and]
        refine JL_is (d0 := 32) false rfl (by rw [q2]; rfl) (fun g2 => ?_)
        refine JL_guard rfl rfl g2 ?_
        refine JL_pd rfl (det_move rfl) ?_
        refine JL_guard rfl rfl g2 ?_
        refine JL_pd rfl (det_len rfl Try.runUnderlying22) ?_
        refine JL_guard rfl rfl g2 ?_
        refine JL_pd rfl (det_move rfl) ?_
        refine JL_guard rfl rfl g2 ?_
        refine JL_pd rfl (det_neq rfl rfl) ?_
        refine JL_pd rfl (det_pick_f rfl g2 rfl) ?_
        refine JL_pd rfl (det_move rfl) ?_
        -- stop: guard 14
        by_cases q3 : (s.length : Int) = lastM ls
        · refine JL_is (d0 := 38) false rfl (by rw [decide_eq_true q3]; rfl) (fun g3 => ?_)
          refine JL_guard rfl rfl g3 ?_
          refine JL_pd rfl (det_move rfl) ?_
          refine JL_guard rfl rfl g3 ?_
          refine JL_pd rfl (det_move rfl) ?_
          refine JL_guard rfl rfl g3 ?_
          refine JL_step rfl rfl rfl (jo_callv rfl rfl Try.call57 rfl (hV2)) fun _ => ?_
          refine JL_guard rfl rfl g3 ?_
          refine JL_pd rfl (det_not rfl) ?_
          refine JL_pd rfl (det_pick_f rfl g3 rfl) ?_
          refine JL_nil ?_
          refine JE_seq ?_
          -- stop: cond
          refine JC_cond rfl (fun q4 => ?_) (fun q4 => ?_)
          · simp only [Bool.not_eq_true'] at q4
            refine JC_seq ?_
            refine JC_region ?_
            refine JL_pd rfl (det_assign rfl) ?_
            refine JL_nil ?_
            refine JE_seq ?_
            refine JC_ret ?_
            refine JE_seq_ret ?_
            -- stop: out
            refine JE_out (.inl rfl) () (results1 Try.results50 (res_tmp rfl)) (by unfold fitsB; rw [q4, Bool.false_and, Bool.and_false]) (List.Perm.refl _) (fun _ _ => trivial)
          · simp only [Bool.not_eq_false'] at q4
            have hok : ∀ x ∈ s, 1 ≤ x ∧ x ≤ 1000 := fun x hx => inI_iff.1 (List.all_eq_true.1 q4 x hx)
            refine JC_skip ?_
            refine JE_seq ?_
            refine JC_seq ?_
            refine JC_seq ?_
            refine JC_region ?_
            refine JL_pd rfl (det_move rfl) ?_
            refine JL_pd rfl (det_len rfl Try.runUnderlying33) ?_
            refine JL_pd rfl (det_move rfl) ?_
            refine JL_nil ?_
            refine JE_seq ?_
            refine JC_block ?_
            -- stop: loop
            refine JC_loopF (γ := Nat) (fun i => i ≤ ls.length ∧ (ls.take i).all (fitM s) = true) (fun i => [(46, I i)]) (fun _ => []) (fun i => ls.length - i) 0 ⟨Nat.zero_le _, rfl⟩ (stsub_consI rfl rfl stsub_nil) ht_nil ?_
            rintro i ⟨hi, hb⟩ K hK
            dsimp only [List.cons_append, List.nil_append]
            refine JC_seq ?_
            refine JC_region ?_
            refine JL_pd rfl (det_lss rfl rfl) ?_
            refine JL_nil ?_
            refine JE_seq ?_
            refine JC_seq ?_
            -- stop: cond
            refine JC_if rfl (fun h3 => ?_) (fun h3 => ?_)
            · have hi2 : i < ls.length := by omega
              have hm := hV _ (List.getElem_mem hi2)
              have v1 := hm.n0
              have v2 := lastM_le (List.getElem_mem hi2)
              refine JC_skip ?_
              refine JE_seq ?_
              refine JC_seq ?_
              refine JC_block ?_
              refine JC_seq ?_
              refine JC_region ?_
              refine JL_dt rfl (det_indexAddr rfl rfl (by first | rfl | omega) (by first | assumption | omega | decide) Try.runUnderlying33 Try.sizeOf94) ?_
              refine JL_dt rfl (det_loadEA rfl (by first | assumption | omega | decide) Try.isAgg94 Try.sizeOf94 rfl rfl rfl) ?_
              refine JL_step rfl rfl rfl (jo_alloc0 Try.zeroValue94 rfl) fun b10 => ?_
              refine JL_step0 rfl rfl (jo_store rfl rfl rfl (by first | (simp only [splice_norm]; done) | (simp only [splice_norm]; rfl) | rfl) Try.sizeOf94 rfl rfl) fun _ => ?_
              refine JL_nil ?_
              refine JE_seq ?_
              refine JC_seq ?_
              refine JC_region ?_
              refine JL_pd rfl (det_assign rfl) ?_
              refine JL_nil ?_
              refine JE_seq ?_
              refine JC_seq ?_
              refine JC_seq ?_
              refine JC_region ?_
              refine JL_pd rfl (det_fieldAddr rfl fo_94_0) ?_
              refine JL_dt rfl (det_loadK rfl Try.isAgg3 rfl) ?_
              refine JL_pd rfl (det_move rfl) ?_
              refine JL_nil ?_
              refine JE_seq ?_
              refine JC_block ?_
              -- stop: loop
              refine JC_loopF (γ := Nat) (fun k => k ≤ ls[i].no.toNat) (fun k => [(52, I k), (11, I (s.take k).sum)]) (fun _ => []) (fun k => ls[i].no.toNat - k) 0 (Nat.zero_le _) (stsub_consI rfl rfl (stsub_consI rfl (by simp) stsub_nil)) ht_nil ?_
              intro k hk K1 hK1
              dsimp only [List.cons_append, List.nil_append]
              have hbd := sum_bd1 (s.take k) fun x hx => hok x (List.mem_of_mem_take hx)
              rw [List.length_take] at hbd
              refine JC_seq ?_
              refine JC_region ?_
              refine JL_pd rfl (det_lss rfl rfl) ?_
              refine JL_nil ?_
              refine JE_seq ?_
              refine JC_seq ?_
              -- stop: cond
              refine JC_if rfl (fun h4 => ?_) (fun h4 => ?_)
              · have hk2 : k < s.length := by omega
                have hsk := hok _ (List.getElem_mem hk2)
                have hts := take_sum hk2
                refine JC_skip ?_
                refine JE_seq ?_
                refine JC_seq ?_
                refine JC_block ?_
                refine JC_seq ?_
                refine JC_region ?_
                refine JL_pd rfl (det_move rfl) ?_
                refine JL_pd rfl (det_assign rfl) ?_
                refine JL_nil ?_
                refine JE_seq ?_
                refine JC_region ?_
                refine JL_pd rfl (det_move rfl) ?_
                refine JL_pd rfl (det_move rfl) ?_
                refine JL_pd rfl (det_move rfl) ?_
                refine JL_dt rfl (det_indexAddr rfl rfl (by first | rfl | omega) (by first | assumption | omega | decide) Try.runUnderlying22 Try.sizeOf3) ?_
                refine JL_dt rfl (det_loadE rfl (by first | assumption | omega | decide) Try.isAgg3 rfl rfl) ?_
                refine JL_pd rfl (det_add rfl rfl ⟨by omega, by omega⟩) ?_
                refine JL_pd rfl (det_assign rfl) ?_
                refine JL_nil ?_
                refine JE_block ?_
                refine JE_seq ?_
                refine JC_region ?_
                refine JL_pd rfl (det_add rfl rfl ⟨by omega, by omega⟩) ?_
                refine JL_pd rfl (det_move rfl) ?_
                refine JL_nil ?_
                -- stop: end
                refine JE_roundF hK1 (k + 1) (by omega) (by omega) (stsub_consI rfl (by omega) (stsub_consI rfl (by omega) stsub_nil)) ht_nil
              · obtain rfl : k = ls[i].no.toNat := by omega
                have hgd := getD_of (s := s) (i := ls[i].no.toNat - 1) (by omega)
                refine JC_exit ?_
                refine JE_seq_exit ?_
                refine JE_then_exit ?_
                refine JE_block_here ?_
                refine JE_seq ?_
                refine JC_seq ?_
                refine JC_draw [] (by kernel_rfl) ?_
                refine JA_pd (i := 0) rfl (by kernel_rfl) rfl rfl (det_move rfl) ?_
                refine JA_pd (i := 1) rfl (by kernel_rfl) rfl rfl (det_fieldAddr rfl fo_94_0) ?_
                refine JA_dt (i := 2) rfl (by kernel_rfl) (by kernel_rfl) rfl rfl (det_loadK rfl Try.isAgg3 rfl) ?_
                refine JA_pd (i := 3) rfl (by kernel_rfl) rfl rfl (det_sub rfl rfl ⟨by omega, by omega⟩) ?_
                refine JA_dt (i := 4) rfl (by kernel_rfl) (by kernel_rfl) rfl rfl (det_indexAddr (i := ls[i].no.toNat - 1) rfl rfl (by omega) (by omega) Try.runUnderlying22 Try.sizeOf3) ?_
                refine JA_dt (i := 5) rfl (by kernel_rfl) (by kernel_rfl) rfl rfl (det_loadE rfl (by first | assumption | omega | decide) Try.isAgg3 rfl rfl) ?_
                refine JA_pd (i := 6) rfl (by kernel_rfl) rfl rfl (det_fieldAddr rfl fo_94_1) ?_
                refine JA_dt (i := 7) rfl (by kernel_rfl) (by kernel_rfl) rfl rfl (det_loadK rfl Try.isAgg3 rfl) ?_
                refine JA_pd (i := 8) rfl (by kernel_rfl) rfl rfl (det_neq rfl rfl) ?_
                refine JA_pd (i := 9) rfl (by kernel_rfl) rfl rfl (det_move rfl) ?_
                -- stop: guard 9
                by_cases h5 : s[ls[i].no.toNat - 1]'(by omega) = ls[i].coins
                · refine JA_is (d0 := 71) false rfl (by rw [decide_eq_true h5]; rfl) (fun g5 => ?_)
                  refine JA_gpd (i := 10) rfl (by kernel_rfl) rfl rfl rfl rfl g5 (det_move rfl) ?_
                  refine JA_gpd (i := 11) rfl (by kernel_rfl) rfl rfl rfl rfl g5 (det_fieldAddr rfl fo_94_2) ?_
                  refine JA_gdt (i := 12) rfl (by kernel_rfl) (by kernel_rfl) rfl rfl rfl rfl g5 (det_loadK rfl Try.isAgg3 rfl) ?_
                  refine JA_gpd (i := 13) rfl (by kernel_rfl) rfl rfl rfl rfl g5 (det_neq rfl rfl) ?_
                  refine JA_pd (i := 14) rfl (by kernel_rfl) rfl rfl (det_pick_f rfl g5 rfl) ?_
                  refine JA_done (by kernel_rfl) ?_
                  refine JE_seq ?_
                  -- stop: cond
                  refine JC_ifn rfl (fun h6 => ?_) (fun h6 => ?_)
                  · refine JC_seq ?_
                    refine JC_region ?_
                    refine JL_pd rfl (det_assign rfl) ?_
                    refine JL_nil ?_
                    refine JE_seq ?_
                    refine JC_ret ?_
                    refine JE_block_ret ?_
                    refine JE_seq_ret ?_
                    refine JE_then_ret ?_
                    refine JE_block_ret ?_
                    refine JE_seq_ret ?_
                    -- stop: out
                    refine JE_out (.inl rfl) () (results1 Try.results50 (res_tmp rfl)) (by unfold fitsB; rw [all_no hi2 (show fitM s ls[i] = false by unfold fitM; rw [decide_eq_false h6, Bool.and_false]), Bool.and_false, Bool.and_false]) (List.Perm.refl _) (fun _ _ => trivial)
                  · refine JC_skip ?_
                    refine JE_block ?_
                    refine JE_seq ?_
                    refine JC_region ?_
                    refine JL_pd rfl (det_add rfl rfl ⟨by omega, by omega⟩) ?_
                    refine JL_pd rfl (det_move rfl) ?_
                    refine JL_nil ?_
                    -- stop: end
                    refine JE_roundF hK (i + 1) ⟨by omega, all_snoc hi2 hb (by unfold fitM; rw [hgd, decide_eq_true h5, decide_eq_true h6]; rfl)⟩ (by omega) (stsub_consI rfl (by omega) stsub_nil) ht_nil
                · skip
                  refine JA_is (d0 := 71) true rfl (by rw [decide_eq_false h5]; rfl) (fun g5 => ?_)
                  refine JA_skip (i := 10) rfl (by kernel_rfl) rfl rfl rfl rfl g5 ?_
                  refine JA_skip (i := 11) rfl (by kernel_rfl) rfl rfl rfl rfl g5 ?_
                  refine JA_skip (i := 12) rfl (by kernel_rfl) rfl rfl rfl rfl g5 ?_
                  refine JA_skip (i := 13) rfl (by kernel_rfl) rfl rfl rfl rfl g5 ?_
                  refine JA_pd (i := 14) rfl (by kernel_rfl) rfl rfl (det_pick_t rfl g5 rfl) ?_
                  refine JA_done (by kernel_rfl) ?_
                  refine JE_seq ?_
                  refine JC_condT rfl rfl ?_
                  refine JC_seq ?_
                  refine JC_region ?_
                  refine JL_pd rfl (det_assign rfl) ?_
                  refine JL_nil ?_
                  refine JE_seq ?_
                  refine JC_ret ?_
                  refine JE_block_ret ?_
                  refine JE_seq_ret ?_
                  refine JE_then_ret ?_
                  refine JE_block_ret ?_
                  refine JE_seq_ret ?_
                  -- stop: out
                  refine JE_out (.inl rfl) () (results1 Try.results50 (res_tmp rfl)) (by unfold fitsB; rw [all_no hi2 (show fitM s ls[i] = false by unfold fitM; rw [hgd, decide_eq_false h5, Bool.false_and]), Bool.and_false, Bool.and_false]) (List.Perm.refl _) (fun _ _ => trivial)
            · obtain rfl : i = ls.length := by omega
              rw [List.take_length] at hb
              refine JC_exit ?_
              refine JE_seq_exit ?_
              refine JE_then_exit ?_
              refine JE_block_here ?_
              refine JE_seq ?_
              refine JC_seq ?_
              refine JC_region ?_
              refine JL_pd rfl (det_assign rfl) ?_
              refine JL_nil ?_
              refine JE_seq ?_
              refine JC_ret ?_
              -- stop: out
              refine JE_out (.inl rfl) () (results1 Try.results50 (res_tmp rfl)) (by unfold fitsB; rw [q4, hb, decide_eq_true q3]; rfl) (List.Perm.refl _) (fun _ _ => trivial)
        · skip
          refine JL_is (d0 := 38) true rfl (by rw [decide_eq_false q3]; rfl) (fun g3 => ?_)
          refine JL_skip rfl rfl g3 rfl ?_
          refine JL_skip rfl rfl g3 rfl ?_
          refine JL_skip rfl rfl g3 rfl ?_
          refine JL_skip rfl rfl g3 rfl ?_
          refine JL_pd rfl (det_pick_t rfl g3 rfl) ?_
          refine JL_nil ?_
          refine JE_seq ?_
          refine JC_condT rfl rfl ?_
          refine JC_seq ?_
          refine JC_region ?_
          refine JL_pd rfl (det_assign rfl) ?_
          refine JL_nil ?_
          refine JE_seq ?_
          refine JC_ret ?_
          refine JE_seq_ret ?_
          -- stop: out
          refine JE_out (.inl rfl) () (results1 Try.results50 (res_tmp rfl)) (by unfold fitsB; rw [decide_eq_false q3]; rfl) (List.Perm.refl _) (fun _ _ => trivial)
      · rw [Bool.not_eq_true] at q2
        refine JL_is (d0 := 32) true rfl (by rw [q2]; rfl) (fun g2 => ?_)
        refine JL_skip rfl rfl g2 rfl ?_
        refine JL_skip rfl rfl g2 rfl ?_
        refine JL_skip rfl rfl g2 rfl ?_
        refine JL_skip rfl rfl g2 rfl ?_
        refine JL_pd rfl (det_pick_t rfl g2 rfl) ?_
        refine JL_pd rfl (det_move rfl) ?_
        refine JL_skip rfl rfl rfl rfl ?_
        refine JL_skip rfl rfl rfl rfl ?_
        refine JL_skip rfl rfl rfl rfl ?_
        refine JL_skip rfl rfl rfl rfl ?_
        refine JL_pd rfl (det_pick_t rfl rfl rfl) ?_
        refine JL_nil ?_
        refine JE_seq ?_
        refine JC_condT rfl rfl ?_
        refine JC_seq ?_
        refine JC_region ?_
        refine JL_pd rfl (det_assign rfl) ?_
        refine JL_nil ?_
        refine JE_seq ?_
        refine JC_ret ?_
        refine JE_seq_ret ?_
        -- stop: out
        refine JE_out (.inl rfl) () (results1 Try.results50 (res_tmp rfl)) (by rw [show mfE ls = 1 from (if_neg q1).trans (if_pos q2)]; rfl) (List.Perm.refl _) (fun _ _ => trivial)
end Go.Proofs.Ytjbmkdbgobmclaa

/- Walks of the laws of bill: sales by words. -/
namespace Go.Proofs.Ytjbmkdbgobmclaa
open Go.RowKit Go.Shelf

def wordV (ws : List Int) (at_ : Nat) : Int := if ws.length = 0 then 0 else ws.getD (at_ % ws.length) 0
theorem word_bd {ws : List Int} (h : wordsOk ws) (n : Nat) : 0 ≤ wordV ws n ∧ wordV ws n ≤ 65535 := by
  unfold wordV
  split
  · omega
  · rename_i hne
    have hlt := Nat.mod_lt n (Nat.pos_of_ne_zero hne)
    rw [List.getD_eq_getElem?_getD, List.getElem?_eq_getElem hlt]
    exact h _ (List.getElem_mem hlt)
theorem word_j (ws : List Int) (a : Option Addr) (c : Nat) (n : Nat) (hw : wordsOk ws) : Cv Try.prog 73 [.slice a ws.length c, I n] (KSl a ws.length c encU ws) (I (wordV ws n)) := by
  refine Cx_of Try.func73 rfl Try.ntmps73 rfl fun w0 M0 => ?_
  refine JC_seq ?_
  refine JC_region ?_
  refine JL_pd rfl (det_assign rfl) ?_
  refine JL_nil ?_
  refine JE_seq ?_
  refine JC_seq ?_
  refine JC_seq ?_
  refine JC_region ?_
  refine JL_pd rfl (det_move rfl) ?_
  refine JL_pd rfl (det_len rfl Try.runUnderlying68) ?_
  refine JL_pd rfl (det_eql rfl rfl) ?_
  refine JL_nil ?_
  refine JE_seq ?_
  -- stop: cond
  refine JC_if rfl (fun h1 => ?_) (fun h1 => ?_)
  · refine JC_seq ?_
    refine JC_region ?_
    refine JL_pd rfl (det_assign rfl) ?_
    refine JL_nil ?_
    refine JE_seq ?_
    refine JC_ret ?_
    refine JE_seq_ret ?_
    -- stop: out
    refine JE_out (.inl rfl) () (results1 Try.results73 (res_tmp rfl)) (by unfold wordV; rw [if_pos (by omega)]) (List.Perm.refl _) (fun _ _ => trivial)
  · have hne : ws.length ≠ 0 := by omega
    have hlt := Nat.mod_lt n (Nat.pos_of_ne_zero hne)
    have hb := hw _ (List.getElem_mem hlt)
    have hm : (n : Int).tmod (ws.length : Int) = ((n % ws.length : Nat) : Int) := by rw [Int.tmod_eq_emod_of_nonneg (by omega)]; rfl
    refine JC_skip ?_
    refine JE_seq ?_
    refine JC_seq ?_
    refine JC_region ?_
    refine JL_pd rfl (det_move rfl) ?_
    refine JL_pd rfl (det_move rfl) ?_
    refine JL_pd rfl (det_move rfl) ?_
    refine JL_pd rfl (det_len rfl Try.runUnderlying68) ?_
    refine JL_pd rfl (det_rem rfl rfl (by omega)) ?_
    refine JL_dt rfl (det_indexAddr rfl rfl (by first | rfl | omega) (by first | assumption | omega | decide) Try.runUnderlying68 Try.sizeOf65) ?_
    refine JL_dt rfl (det_loadE rfl (by first | assumption | omega | decide) Try.isAgg65 rfl rfl) ?_
    refine JL_pd rfl (det_convI rfl Try.runUnderlying65 Try.runUnderlying3 (i64_wrap ⟨by omega, by omega⟩)) ?_
    refine JL_pd rfl (det_assign rfl) ?_
    refine JL_nil ?_
    refine JE_seq ?_
    refine JC_ret ?_
    -- stop: out
    refine JE_out (.inl rfl) () (results1 Try.results73 (res_tmp rfl)) (by unfold wordV; rw [if_neg hne, List.getD_eq_getElem?_getD, List.getElem?_eq_getElem hlt]; rfl) (List.Perm.refl _) (fun _ _ => trivial)
def saleV (ws : List Int) (i : Nat) : Int := 1 + (wordV ws i).tmod 1000
theorem sale_ok {ws : List Int} (h : wordsOk ws) (i : Nat) : okS (saleV ws i) := by
  have := word_bd h i
  unfold saleV okS
  rw [Int.tmod_eq_emod_of_nonneg this.1]
  omega
def salesL (ws : List Int) (n : Nat) : List Int := (List.range n).map (saleV ws)
theorem sales_len (ws : List Int) (n : Nat) : (salesL ws n).length = n := by unfold salesL; rw [List.length_map, List.length_range]
theorem sales_snoc (ws : List Int) (n : Nat) : salesL ws (n + 1) = salesL ws n ++ [saleV ws n] := by unfold salesL; rw [List.range_succ, List.map_append]; rfl
theorem sales_ok {ws : List Int} (h : wordsOk ws) (n : Nat) : ∀ x ∈ salesL ws n, okS x := fun x hx => by
  obtain ⟨i, _, rfl⟩ := List.mem_map.1 hx
  exact sale_ok h i
def bitB (bits : Int) (i : Nat) : Bool := decide ((bits.fdiv (2 ^ min ((i : Int)).toNat 64)).tmod 2 = 1)
def toldL (ws : List Int) (bits : Int) : Nat → List Ms
  | 0 => []
  | i + 1 => if bitB bits i = true ∧ (toldL ws bits i).length < 30 then toldL ws bits i ++ [⟨(i : Int) + 1, saleV ws i, (salesL ws (i + 1)).sum⟩] else toldL ws bits i
theorem told_len (ws : List Int) (bits : Int) : ∀ i, (toldL ws bits i).length ≤ 30
  | 0 => by simp [toldL]
  | i + 1 => by
    rw [toldL]
    split
    · rename_i h; rw [List.length_append]; simp only [List.length_cons, List.length_nil]; omega
    · exact told_len ws bits i
theorem told_mem {ws : List Int} {bits : Int} : ∀ {i : Nat} {m : Ms}, m ∈ toldL ws bits i → ∃ k, k < i ∧ m = ⟨(k : Int) + 1, saleV ws k, (salesL ws (k + 1)).sum⟩
  | 0, m, h => by cases h
  | i + 1, m, h => by
    rw [toldL] at h
    split at h
    · rcases List.mem_append.1 h with h | h
      · obtain ⟨k, h1, h2⟩ := told_mem h; exact ⟨k, by omega, h2⟩
      · exact ⟨i, by omega, List.mem_singleton.1 h⟩
    · obtain ⟨k, h1, h2⟩ := told_mem h; exact ⟨k, by omega, h2⟩
theorem sales_take (ws : List Int) {k n : Nat} (h : k ≤ n) : (salesL ws n).take k = salesL ws k := by
  unfold salesL
  rw [← List.map_take, List.take_range, Nat.min_eq_left h]
theorem sales_bd {ws : List Int} (h : wordsOk ws) (n : Nat) : 0 ≤ (salesL ws n).sum ∧ (salesL ws n).sum ≤ 1000 * n := by
  have := sum_bd1 (salesL ws n) (sales_ok h n)
  rw [sales_len] at this
  exact this
theorem told_ok {ws : List Int} {bits : Int} (h : wordsOk ws) {n : Nat} (hn : n ≤ 60) : ∀ m ∈ toldL ws bits n, VMs m := fun m hm => by
  obtain ⟨k, hk, rfl⟩ := told_mem hm
  have h1 := sale_ok h k
  have h2 := sales_bd h (k + 1)
  unfold okS at h1
  exact ⟨by simp only; omega, by simp only; omega, h1.1, h1.2, h2.1, by simp only; omega⟩
theorem told_last {ws : List Int} {bits : Int} (n : Nat) : lastM (toldL ws bits n) ≤ n := by
  rcases lastM_eq (l := toldL ws bits n) with h | ⟨m, hm, h⟩
  · omega
  · obtain ⟨k, hk, rfl⟩ := told_mem hm
    rw [h]; simp only; omega
/-- Sales by words, up to the last one that is told of. -/
def truS (ws : List Int) (bits : Int) (n : Nat) : List Int := (salesL ws n).take (lastM (toldL ws bits n)).toNat
theorem truS_len (ws : List Int) (bits : Int) (n : Nat) : ((truS ws bits n).length : Int) = lastM (toldL ws bits n) := by
  unfold truS
  have h1 := told_last (ws := ws) (bits := bits) n
  have h2 := lastM_0 (toldL ws bits n)
  rw [List.length_take, sales_len]
  omega
theorem tru_fits {ws : List Int} {bits : Int} (h : wordsOk ws) (n : Nat) : Fits (toldL ws bits n) (truS ws bits n) := by
  have h1 := told_last (ws := ws) (bits := bits) n
  refine ⟨truS_len ws bits n, fun x hx => sales_ok h n x (List.mem_of_mem_take hx), fun m hm => ?_, fun m hm => ?_⟩
  · have h2 := lastM_le hm
    obtain ⟨k, hk, rfl⟩ := told_mem hm
    simp only at h2 ⊢
    unfold truS salesL
    rw [List.getElem?_take_of_lt (by omega), List.getElem?_map, List.getElem?_range (by omega)]
    simp only [Option.map_some]
    rw [show ((k : Int) + 1).toNat - 1 = k from by omega]
  · have h2 := lastM_le hm
    obtain ⟨k, hk, rfl⟩ := told_mem hm
    simp only at h2 ⊢
    unfold truS
    rw [List.take_take, Nat.min_eq_left (by omega), show ((k : Int) + 1).toNat = k + 1 from by omega, sales_take ws (by omega)]
theorem tru_read {ws : List Int} {bits : Int} (h : wordsOk ws) {n : Nat} (hn : n ≤ 60) : readE (toldL ws bits n) = 0 := by
  have hV := told_ok (bits := bits) h hn
  have hl := told_len ws bits n
  unfold readE
  rw [if_neg (by omega), if_neg (by rw [List.all_eq_true.2 fun m hm => msOk_iff.2 (hV m hm)]; decide), if_neg (by rw [(fit_ex hV).2 ⟨_, tru_fits h n⟩]; decide)]
theorem salesI_get {ws : List Int} {i n : Nat} (h : i < n) : ((salesL ws n).flatMap encI)[i * 1]? = some (I (saleV ws i)) := by
  have e : ∀ l : List Int, l.flatMap encI = l.map fun x => I x := fun l => by
    induction l with
    | nil => rfl
    | cons x l ih => rw [List.flatMap_cons, ih]; rfl
  rw [e, Nat.mul_one, List.getElem?_map, salesL, List.getElem?_map, List.getElem?_range h]
  rfl
set_option maxRecDepth 100000 in
set_option maxHeartbeats 1000000 in
theorem Truly_j (mn : Nat) (ws : List Int) (wa : Option Addr) (wc : Nat) (bits : Int) (hm : mn ≤ 255) (hw : wordsOk ws) (hb : 0 ≤ bits ∧ bits ≤ 18446744073709551615) : Cr Try.prog 37 [.int .u8 mn, .slice wa ws.length wc, .int .u64 bits] (KSl wa ws.length wc encU ws)
    (fun q : (Option Addr × Nat) × (Option Addr × Nat) => .tuple #[.slice q.1.1 (truS ws bits (mn % 61)).length q.1.2, .slice q.2.1 (toldL ws bits (mn % 61)).length q.2.2])
    (fun q => KAnd (KSl q.1.1 (truS ws bits (mn % 61)).length q.1.2 encI (truS ws bits (mn % 61))) (KSl q.2.1 (toldL ws bits (mn % 61)).length q.2.2 encM (toldL ws bits (mn % 61)))) := by
  obtain ⟨n, hnd⟩ : ∃ n : Nat, mn % 61 = n := ⟨_, rfl⟩
  have hrem : (mn : Int).tmod 61 = (n : Int) := by rw [Int.tmod_eq_emod_of_nonneg (by omega), ← hnd]; rfl
  have hn : n ≤ 60 := by omega
  rw [hnd]
  refine Cx_of Try.func37 rfl Try.ntmps37 rfl fun w0 M0 => ?_
  refine JC_seq ?_
  refine JC_region ?_
  refine JL_pd rfl (det_assign rfl) ?_
  refine JL_pd rfl (det_assign rfl) ?_
  refine JL_nil ?_
  refine JE_seq ?_
  refine JC_seq ?_
  refine JC_region ?_
  refine JL_pd rfl (det_assign rfl) ?_
  refine JL_nil ?_
  refine JE_seq ?_
  refine JC_seq ?_
  refine JC_region ?_
  refine JL_pd rfl (det_assign rfl) ?_
  refine JL_nil ?_
  refine JE_seq ?_
  refine JC_seq ?_
  refine JC_region ?_
  refine JL_pd rfl (det_assign rfl) ?_
  refine JL_nil ?_
  refine JE_seq ?_
  refine JC_seq ?_
  refine JC_seq ?_
  refine JC_region ?_
  refine JL_pd rfl (det_assign rfl) ?_
  refine JL_nil ?_
  refine JE_seq ?_
  refine JC_block ?_
  -- stop: loop
  refine JC_nil 74 3 ?_
  refine JC_nil 3 1 ?_
  refine JC_loopF (γ := Nat × Value × Value) (fun q => q.1 ≤ n) (fun q => [(11, I q.1), (10, I (salesL ws q.1).sum), (8, q.2.1), (9, q.2.2)]) (fun q => [ow q.2.1 3 1 q.1 ((salesL ws q.1).flatMap encI), ow q.2.2 74 3 (toldL ws bits q.1).length ((toldL ws bits q.1).flatMap encM)]) (fun q => n - q.1) (0, .slice none 0 0, .slice none 0 0) (Nat.zero_le _) (stsub_consI rfl rfl (stsub_consI rfl rfl (stsub_cons rfl (stsub_cons rfl stsub_nil)))) (ht_ow rfl rfl (ht_ow rfl rfl ht_nil)) ?_
  rintro ⟨i, v, u⟩ hi K hK
  dsimp only [List.cons_append, List.nil_append] at hi ⊢
  have htl := told_len ws bits i
  have hsb := sales_bd hw i
  have hsb2 := sales_bd hw (i + 1)
  refine JC_formS u ?_
  rintro ua uc rfl
  refine JC_seq ?_
  refine JC_seq ?_
  refine JC_region ?_
  refine JL_pd rfl (det_move rfl) ?_
  refine JL_pd rfl (det_move rfl) ?_
  refine JL_pd rfl (det_convI rfl Try.runUnderlying5 Try.runUnderlying3 (i64_wrap ⟨by omega, by omega⟩)) ?_
  refine JL_pd rfl (det_rem rfl rfl (by decide)) ?_
  refine JL_pd rfl (det_lss rfl rfl) ?_
  refine JL_nil ?_
  refine JE_seq ?_
  -- stop: cond
  rw [hrem]
  refine JC_if rfl (fun h1 => ?_) (fun h1 => ?_)
  · have hi2 : i < n := by omega
    have hwb := word_bd hw i
    have hso := sale_ok hw i
    unfold okS at hso
    have hsn := sales_snoc ws i
    have hss : (salesL ws (i + 1)).sum = (salesL ws i).sum + saleV ws i := by rw [hsn, List.sum_append]; simp
    have hflat : (salesL ws (i + 1)).flatMap encI = (salesL ws i).flatMap encI ++ [I (saleV ws i)] := by rw [hsn, List.flatMap_append]; rfl
    have hg := salesI_get (ws := ws) (show i < i + 1 by omega)
    rw [hflat] at hg
    refine JC_skip ?_
    refine JE_seq ?_
    refine JC_seq ?_
    refine JC_block ?_
    refine JC_seq ?_
    refine JC_region ?_
    refine JL_pd rfl (det_move rfl) ?_
    refine JL_pd rfl (det_move rfl) ?_
    refine JL_pd rfl (det_move rfl) ?_
    refine JL_step rfl rfl rfl (jo_callv rfl rfl Try.call73 rfl (word_j ws wa wc _ hw)) fun _ => ?_
    refine JL_pd rfl (det_rem rfl rfl (by omega)) ?_
    refine JL_pd rfl (det_addR (saleV ws i) rfl rfl (i64_wrap (show InI (1 + (wordV ws i).tmod 1000) from ⟨by unfold saleV at hso; omega, by unfold saleV at hso; omega⟩))) ?_
    refine JL_step rfl rfl rfl (jo_buildSlice rfl (bsl_22_1_0 _)) fun b25 => ?_
    refine JL_step rfl rfl rfl (jo_append el_22 rfl rfl rfl rfl (by omega)) fun b26 => ?_
    refine JL_pd rfl (det_assign rfl) ?_
    refine JL_nil ?_
    refine JE_seq ?_
    refine JC_seq ?_
    refine JC_region ?_
    refine JL_pd rfl (det_move rfl) ?_
    refine JL_pd rfl (det_move rfl) ?_
    refine JL_pd rfl (det_move rfl) ?_
    refine JL_pd rfl (det_indexOwn (i := i) rfl rfl (by first | rfl | omega) (by first | assumption | omega) Try.runUnderlying22 Try.sizeOf3) ?_
    refine JL_dt rfl (det_loadO rfl Try.isAgg3 hg) ?_
    refine JL_pd rfl (det_add rfl rfl ⟨by omega, by omega⟩) ?_
    refine JL_pd rfl (det_assign rfl) ?_
    refine JL_nil ?_
    refine JE_seq ?_
    refine JC_seq ?_
    refine JC_region ?_
    refine JL_pd rfl (det_move rfl) ?_
    refine JL_pd rfl (det_move rfl) ?_
    refine JL_pd rfl (det_convI rfl Try.runUnderlying3 Try.runUnderlying135 (u64_wrap ⟨by omega, by omega⟩)) ?_
    refine JL_pd rfl (det_shr rfl rfl (by omega)) ?_
    refine JL_pd rfl (det_rem rfl rfl (by omega)) ?_
    refine JL_pd rfl (det_eql rfl rfl) ?_
    refine JL_pd rfl (det_move rfl) ?_
    -- stop: guard 6
    have hbe : decide ((bits.fdiv (2 ^ min ((i : Int)).toNat 64)).tmod 2 = 1) = bitB bits i := rfl
    by_cases h2 : bitB bits i = true
    · refine JL_is (d0 := 39) true rfl (by exact h2) (fun g1 => ?_)
      refine JL_guard rfl rfl g1 ?_
      refine JL_pd rfl (det_move rfl) ?_
      refine JL_guard rfl rfl g1 ?_
      refine JL_pd rfl (det_len rfl Try.runUnderlying31) ?_
      refine JL_guard rfl rfl g1 ?_
      refine JL_pd rfl (det_lss rfl rfl) ?_
      refine JL_pd rfl (det_pick_t rfl g1 rfl) ?_
      refine JL_nil ?_
      refine JE_seq ?_
      -- stop: cond
      refine JC_if rfl (fun h3 => ?_) (fun h3 => ?_)
      · have hts : toldL ws bits (i + 1) = toldL ws bits i ++ [⟨(i : Int) + 1, saleV ws i, (salesL ws (i + 1)).sum⟩] := by rw [toldL, if_pos ⟨h2, by omega⟩]
        rw [hss] at hts
        refine JC_region ?_
        refine JL_pd rfl (det_move rfl) ?_
        refine JL_pd rfl (det_move rfl) ?_
        refine JL_pd rfl (det_add rfl rfl ⟨by omega, by omega⟩) ?_
        refine JL_pd rfl (det_move rfl) ?_
        refine JL_pd rfl (det_move rfl) ?_
        refine JL_pd rfl (det_indexOwn (i := i) rfl rfl (by first | rfl | omega) (by first | assumption | omega) Try.runUnderlying22 Try.sizeOf3) ?_
        refine JL_dt rfl (det_loadO rfl Try.isAgg3 hg) ?_
        refine JL_pd rfl (det_move rfl) ?_
        refine JL_pd rfl (det_build rfl (bld_74_0_1_2 _ _ _)) ?_
        refine JL_step rfl rfl rfl (jo_buildSlice rfl (bsl_31_1_0 _ _ _)) fun b53 => ?_
        refine JL_step rfl rfl rfl (jo_append el_31 rfl rfl rfl rfl (by omega)) fun b54 => ?_
        refine JL_pd rfl (det_assign rfl) ?_
        refine JL_nil ?_
        refine JE_block ?_
        refine JE_seq ?_
        refine JC_region ?_
        refine JL_pd rfl (det_move rfl) ?_
        refine JL_pd rfl (det_add rfl rfl ⟨by omega, by omega⟩) ?_
        refine JL_pd rfl (det_assign rfl) ?_
        refine JL_nil ?_
        -- stop: end
        refine JE_roundF hK (i + 1, .slice (some ⟨b26.1, 0, none⟩) (i + 1) b26.2, .slice (some ⟨b54.1, 0, none⟩) ((toldL ws bits i).length + 1) b54.2) (by simp only; omega) (by simp only; omega) (stsub_consI rfl (by simp only; omega) (stsub_consI rfl (by simp only; omega) (stsub_cons rfl (stsub_cons rfl stsub_nil)))) (ht_ow rfl (by simp only; rw [hflat]) (ht_ow (by simp only; rw [hts, List.length_append]; rfl) (by simp only; rw [hts, List.flatMap_append]; rfl) ht_nil))
      · have hts : toldL ws bits (i + 1) = toldL ws bits i := by rw [toldL, if_neg (by omega)]
        refine JC_skip ?_
        refine JE_block ?_
        refine JE_seq ?_
        refine JC_region ?_
        refine JL_pd rfl (det_move rfl) ?_
        refine JL_pd rfl (det_add rfl rfl ⟨by omega, by omega⟩) ?_
        refine JL_pd rfl (det_assign rfl) ?_
        refine JL_nil ?_
        -- stop: end
        refine JE_roundF hK (i + 1, .slice (some ⟨b26.1, 0, none⟩) (i + 1) b26.2, .slice ua (toldL ws bits i).length uc) (by simp only; omega) (by simp only; omega) (stsub_consI rfl (by simp only; omega) (stsub_consI rfl (by simp only; omega) (stsub_cons rfl (stsub_cons rfl stsub_nil)))) (ht_ow rfl (by simp only; rw [hflat]) (ht_ow (by simp only; rw [hts]) (by simp only; rw [hts]) ht_nil))
    · have hts : toldL ws bits (i + 1) = toldL ws bits i := by rw [toldL, if_neg (fun h => h2 h.1)]
      rw [Bool.not_eq_true] at h2
      refine JL_is (d0 := 39) false rfl (by exact h2) (fun g1 => ?_)
      refine JL_skip rfl rfl g1 rfl ?_
      refine JL_skip rfl rfl g1 rfl ?_
      refine JL_skip rfl rfl g1 rfl ?_
      refine JL_pd rfl (det_pick_f rfl g1 rfl) ?_
      refine JL_nil ?_
      refine JE_seq ?_
      -- stop: cond
      refine JC_cond rfl (fun h3 => ?_) (fun h3 => ?_)
      · cases h3
      refine JC_skip ?_
      refine JE_block ?_
      refine JE_seq ?_
      refine JC_region ?_
      refine JL_pd rfl (det_move rfl) ?_
      refine JL_pd rfl (det_add rfl rfl ⟨by omega, by omega⟩) ?_
      refine JL_pd rfl (det_assign rfl) ?_
      refine JL_nil ?_
      -- stop: end
      refine JE_roundF hK (i + 1, .slice (some ⟨b26.1, 0, none⟩) (i + 1) b26.2, .slice ua (toldL ws bits i).length uc) (by simp only; omega) (by simp only; omega) (stsub_consI rfl (by simp only; omega) (stsub_consI rfl (by simp only; omega) (stsub_cons rfl (stsub_cons rfl stsub_nil)))) (ht_ow rfl (by simp only; rw [hflat]) (ht_ow (by simp only; rw [hts]) (by simp only; rw [hts]) ht_nil))
  · obtain rfl : i = n := by omega
    have hsl := sales_len ws i
    have hlL := told_last (ws := ws) (bits := bits) i
    have hge := lastM_0 (toldL ws bits i)
    have hlen := truS_len ws bits i
    refine JC_slice (enc := encI) (v := v) (salesL ws i) noFp rfl hsl.symm ?_
    rintro sa sc rfl
    refine JC_slice (enc := encM) (v := .slice ua (toldL ws bits i).length uc) (toldL ws bits i) noFp rfl rfl ?_
    rintro ma mc hmm
    obtain ⟨rfl, rfl⟩ : ua = ma ∧ uc = mc := by simpa using hmm
    refine JC_pure (p := i ≤ sc) (by intro w h; exact (Knows.know (F := KSl sa i sc encI (salesL ws i)) w h).1.1) fun hgc => ?_
    have hLj := Last_j ua uc (toldL ws bits i) (by omega)
    obtain ⟨k, hk⟩ : ∃ k : Nat, lastM (toldL ws bits i) = k := ⟨(lastM (toldL ws bits i)).toNat, by omega⟩
    have hkl : k = (truS ws bits i).length := by omega
    have htr : truS ws bits i = (salesL ws i).take k := by unfold truS; rw [hk]; rfl
    rw [hk] at hLj
    refine JC_exit ?_
    refine JE_seq_exit ?_
    refine JE_then_exit ?_
    refine JE_block_here ?_
    refine JE_seq ?_
    refine JC_seq ?_
    refine JC_region ?_
    refine JL_pd rfl (det_move rfl) ?_
    refine JL_pd rfl (det_move rfl) ?_
    refine JL_step rfl rfl rfl (jo_callv rfl rfl Try.call28 rfl (hLj)) fun _ => ?_
    refine JL_pd rfl (det_sliceK k rfl rfl rfl (by omega) Try.runUnderlying22 Try.sizeOf3) ?_
    refine JL_pd rfl (det_move rfl) ?_
    refine JL_pd rfl (det_assign rfl) ?_
    refine JL_pd rfl (det_assign rfl) ?_
    refine JL_nil ?_
    refine JE_seq ?_
    refine JC_ret ?_
    -- stop: out
    refine JE_out (.inl rfl) ((sa, sc), (ua, uc)) (results2 Try.results37 (res_tmp rfl) (res_tmp rfl)) (by rw [hkl]) (List.Perm.refl _) (fun w h => ⟨by rw [← hkl, htr]; exact KSl_take (Knows.know (F := KSl sa i sc encI (salesL ws i)) w h) (by omega), Knows.know (F := KSl ua (toldL ws bits i).length uc encM (toldL ws bits i)) w h⟩)
theorem sumR_0 (s : List Int) (fr to_ : Int) (h : to_ < fr) : sumR 1 s fr to_ = 0 := by
  have : ∀ (s : List Int) (k : Int), sumR k s fr to_ = 0 := by
    intro s
    induction s with
    | nil => intro k; rfl
    | cons x s ih =>
      intro k
      have hn : ¬ inI k fr to_ = true := fun e => by have := inI_iff.1 e; omega
      rw [sumR, if_neg hn, ih]; rfl
  exact this s 1
set_option maxRecDepth 100000 in
theorem sum_j (a : Option Addr) (c : Nat) (s : List Int) (fr to_ : Int) (hs : s.length ≤ 1000) (hok : ∀ x ∈ s, okS x) (h1 : 1 ≤ fr) (h2 : fr ≤ to_) (h3 : to_ ≤ s.length) : Cv Try.prog 38 [.slice a s.length c, I fr, I to_] (KSl a s.length c encI s) (I (sumR 1 s fr to_)) := by
  have hsm : ∀ k : Nat, fr ≤ k + 1 → sumR 1 s fr k = (s.take k).sum - (s.take (fr - 1).toNat).sum := fun k hk => by
    rw [sumR_take s 1 fr k h1 (by omega), show ((k : Int) + 1 - 1).toNat = k from by omega]
  refine Cx_of Try.func38 rfl Try.ntmps38 rfl fun w0 M0 => ?_
  refine JC_seq ?_
  refine JC_region ?_
  refine JL_pd rfl (det_assign rfl) ?_
  refine JL_nil ?_
  refine JE_seq ?_
  refine JC_seq ?_
  refine JC_region ?_
  refine JL_pd rfl (det_assign rfl) ?_
  refine JL_nil ?_
  refine JE_seq ?_
  refine JC_seq ?_
  refine JC_seq ?_
  refine JC_region ?_
  refine JL_pd rfl (det_move rfl) ?_
  refine JL_pd rfl (det_assign rfl) ?_
  refine JL_nil ?_
  refine JE_seq ?_
  refine JC_block ?_
  -- stop: loop
  refine JC_loopF (γ := Nat) (fun k => fr ≤ k + 1 ∧ (k : Int) ≤ to_) (fun k => [(8, I (k + 1)), (7, I (sumR 1 s fr k))]) (fun _ => []) (fun k => to_.toNat - k) (fr - 1).toNat ⟨by omega, by omega⟩ (stsub_consI rfl (by omega) (stsub_consI rfl (by rw [hsm _ (by omega)]; omega) stsub_nil)) ht_nil ?_
  rintro k ⟨hk1, hk2⟩ K hK
  dsimp only [List.cons_append, List.nil_append]
  rw [hsm k hk1]
  have hb1 := sum_bd1 (s.take k) fun x hx => hok x (List.mem_of_mem_take hx)
  have hb2 := sum_bd1 (s.take (fr - 1).toNat) fun x hx => hok x (List.mem_of_mem_take hx)
  rw [List.length_take] at hb1 hb2
  refine JC_seq ?_
  refine JC_seq ?_
  refine JC_region ?_
  refine JL_pd rfl (det_move rfl) ?_
  refine JL_pd rfl (det_move rfl) ?_
  refine JL_pd rfl (det_leq rfl rfl) ?_
  refine JL_nil ?_
  refine JE_seq ?_
  -- stop: cond
  refine JC_if rfl (fun h4 => ?_) (fun h4 => ?_)
  · have hk3 : k < s.length := by omega
    have hts := take_sum hk3
    have hsk := hok _ (List.getElem_mem hk3)
    unfold okS at hsk
    refine JC_skip ?_
    refine JE_seq ?_
    refine JC_seq ?_
    refine JC_block ?_
    refine JC_region ?_
    refine JL_pd rfl (det_move rfl) ?_
    refine JL_pd rfl (det_move rfl) ?_
    refine JL_pd rfl (det_move rfl) ?_
    refine JL_pd rfl (det_sub rfl rfl ⟨by omega, by omega⟩) ?_
    refine JL_dt rfl (det_indexAddr (i := k) rfl rfl (by omega) (by omega) Try.runUnderlying22 Try.sizeOf3) ?_
    refine JL_dt rfl (det_loadE rfl (by first | assumption | omega | decide) Try.isAgg3 rfl rfl) ?_
    refine JL_pd rfl (det_add rfl rfl ⟨by omega, by omega⟩) ?_
    refine JL_pd rfl (det_assign rfl) ?_
    refine JL_nil ?_
    refine JE_block ?_
    refine JE_seq ?_
    refine JC_region ?_
    refine JL_pd rfl (det_move rfl) ?_
    refine JL_pd rfl (det_add rfl rfl ⟨by omega, by omega⟩) ?_
    refine JL_pd rfl (det_assign rfl) ?_
    refine JL_nil ?_
    -- stop: end
    refine JE_roundF hK (k + 1) ⟨by omega, by omega⟩ (by omega) (stsub_consI rfl (by omega) (stsub_consI rfl (by rw [hsm _ (by omega)]; omega) stsub_nil)) ht_nil
  · refine JC_exit ?_
    refine JE_seq_exit ?_
    refine JE_then_exit ?_
    refine JE_block_here ?_
    refine JE_seq ?_
    refine JC_seq ?_
    refine JC_region ?_
    refine JL_pd rfl (det_move rfl) ?_
    refine JL_pd rfl (det_assign rfl) ?_
    refine JL_nil ?_
    refine JE_seq ?_
    refine JC_ret ?_
    -- stop: out
    refine JE_out (.inl rfl) () (results1 Try.results38 (res_tmp rfl)) (by rw [← hsm k hk1, show (k : Int) = to_ from by omega]) (List.Perm.refl _) (fun _ _ => trivial)
end Go.Proofs.Ytjbmkdbgobmclaa
