/- The statements about bill: BillCheapest. -/
import Derived.Test.YtjbmkdbgobmclaaB46
set_option linter.unusedSimpArgs false
set_option linter.unusedVariables false
namespace Go.Proofs.Ytjbmkdbgobmclaa
open Go.RowKit Go.Shelf

def readyB (ls : List Of) (need : Am) (at_ : Int) : Bool := decide (ls.length ≤ 9) && decide (askE ls need at_ = 0)
theorem ready_j (a : Option Addr) (c : Nat) (ls : List Of) (need : Am) (at_ : Int) : Cv Try.prog 31 [.slice a ls.length c, .agg #[I need.g, I need.q, I need.s], I at_] (KSl a ls.length c encO ls) (.bool (readyB ls need at_)) := by
  unfold readyB
  by_cases h : ls.length ≤ 9
  · rw [decide_eq_true h, Bool.true_and]
    refine Cx_of Try.func31 rfl Try.ntmps31 rfl fun w0 M0 => ?_
    refine JC_seq ?_
    refine JC_region ?_
    refine JL_step rfl rfl rfl (jo_box rfl rfl) fun b4 => ?_
    refine JL_pd rfl (det_assign rfl) ?_
    refine JL_nil ?_
    refine JE_seq ?_
    refine JC_seq ?_
    refine JC_region ?_
    refine JL_pd rfl (det_move rfl) ?_
    refine JL_pd rfl (det_len rfl Try.runUnderlying50) ?_
    refine JL_pd rfl (det_leq rfl rfl) ?_
    refine JL_pd rfl (det_move rfl) ?_
    -- stop: guard 3
    refine JL_is (d0 := 10) true rfl (by exact decide_eq_true (by omega)) (fun g1 => ?_)
    refine JL_guard rfl rfl g1 ?_
    refine JL_pd rfl (det_move rfl) ?_
    refine JL_guard rfl rfl g1 ?_
    refine JL_dt rfl (det_loadKA rfl Try.isAgg52 Try.sizeOf52 rfl rfl) ?_
    refine JL_guard rfl rfl g1 ?_
    refine JL_pd rfl (det_move rfl) ?_
    refine JL_guard rfl rfl g1 ?_
    refine JL_step rfl rfl rfl (jo_callv rfl rfl Try.call42 rfl (fault_j a c ls need at_ (by omega))) fun _ => ?_
    refine JL_guard rfl rfl g1 ?_
    refine JL_pd rfl (det_eql rfl rfl) ?_
    refine JL_pd rfl (det_pick_t rfl g1 rfl) ?_
    refine JL_pd rfl (det_assign rfl) ?_
    refine JL_nil ?_
    refine JE_seq ?_
    refine JC_ret ?_
    -- stop: out
    refine JE_out (.inl rfl) () (results1 Try.results31 (res_tmp rfl)) rfl (List.Perm.refl _) (fun _ _ => trivial)
  · rw [decide_eq_false h, Bool.false_and]
    refine Cx_of Try.func31 rfl Try.ntmps31 rfl fun w0 M0 => ?_
    refine JC_seq ?_
    refine JC_region ?_
    refine JL_step rfl rfl rfl (jo_box rfl rfl) fun b4 => ?_
    refine JL_pd rfl (det_assign rfl) ?_
    refine JL_nil ?_
    refine JE_seq ?_
    refine JC_seq ?_
    refine JC_region ?_
    refine JL_pd rfl (det_move rfl) ?_
    refine JL_pd rfl (det_len rfl Try.runUnderlying50) ?_
    refine JL_pd rfl (det_leq rfl rfl) ?_
    refine JL_pd rfl (det_move rfl) ?_
    -- stop: guard 3
    refine JL_is (d0 := 10) false rfl (by exact decide_eq_false (by omega)) (fun g1 => ?_)
    refine JL_skip rfl rfl g1 rfl ?_
    refine JL_skip rfl rfl g1 rfl ?_
    refine JL_skip rfl rfl g1 rfl ?_
    refine JL_skip rfl rfl g1 rfl ?_
    refine JL_skip rfl rfl g1 rfl ?_
    refine JL_pd rfl (det_pick_f rfl g1 rfl) ?_
    refine JL_pd rfl (det_assign rfl) ?_
    refine JL_nil ?_
    refine JE_seq ?_
    refine JC_ret ?_
    -- stop: out
    refine JE_out (.inl rfl) () (results1 Try.results31 (res_tmp rfl)) rfl (List.Perm.refl _) (fun _ _ => trivial)
theorem prov_none {ls : List Of} {need : Am} {at_ : Int} (hV : ∀ o ∈ ls, VOf o) (hn : am12 need) (h : bst at_ ls need = none) (p : List Int) (cost : Int) : provB ls need at_ p cost = false := by
  cases hp : provB ls need at_ p cost with
  | false => rfl
  | true =>
    unfold provB at hp
    simp only [Bool.and_eq_true] at hp
    obtain ⟨b, e, _⟩ := bst_complete at_ ls need p hV hn hp.2.1 hp.2.2.1
    rw [h] at e; cases e
theorem prov_self {ls : List Of} {need : Am} {at_ : Int} (hV : ∀ o ∈ ls, VOf o) (hn : am12 need) (hE : askE ls need at_ = 0) {b : Bt} (h : bst at_ ls need = some b) : provB ls need at_ b.list b.cost = true := by
  obtain ⟨s1, s2, s3⟩ := bst_sound at_ ls need b hV hn h
  have hc : b.cost = coP ls b.list := congrArg Bt.cost s3
  unfold provB
  rw [decide_eq_true hE, s1, s2, decide_eq_true (by omega)]; rfl
theorem prov_best {ls : List Of} {need : Am} {at_ : Int} (hV : ∀ o ∈ ls, VOf o) (hn : am12 need) {b : Bt} (h : bst at_ ls need = some b) {p : List Int} {cost : Int} (hp : provB ls need at_ p cost = true) : alP at_ ls p = true ∧ b.cost ≤ coP ls p ∧ coP ls p ≤ cost ∧ ¬ befV (btP ls p) b < 0 := by
  unfold provB at hp
  simp only [Bool.and_eq_true, decide_eq_true_eq] at hp
  obtain ⟨c, e, h2⟩ := bst_complete at_ ls need p hV hn hp.2.1 hp.2.2.1
  rw [h] at e
  obtain rfl : b = c := by simpa using e
  refine ⟨hp.2.1, ?_, hp.2.2.2, h2⟩
  rw [befV_iff] at h2
  simp only [btP] at h2
  omega
set_option maxRecDepth 100000 in
set_option maxHeartbeats 4000000 in
theorem BillCheapest_j (a : Option Addr) (c : Nat) (ls : List Of) (need : Am) (at_ : Int) (pa : Option Addr) (pc : Nat) (p : List Int) : Cv Try.prog 11 [.slice a ls.length c, .agg #[I need.g, I need.q, I need.s], I at_, .slice pa p.length pc] (KAnd (KSl a ls.length c encO ls) (KSl pa p.length pc encI p)) (.bool true) := by
  refine Cx_of Try.func11 rfl Try.ntmps11 rfl fun w0 M0 => ?_
  refine JC_seq ?_
  refine JC_region ?_
  refine JL_step rfl rfl rfl (jo_box rfl rfl) fun b5 => ?_
  refine JL_pd rfl (det_assign rfl) ?_
  refine JL_nil ?_
  refine JE_seq ?_
  refine JC_seq ?_
  refine JC_seq ?_
  refine JC_region ?_
  refine JL_pd rfl (det_move rfl) ?_
  refine JL_dt rfl (det_loadKA rfl Try.isAgg52 Try.sizeOf52 rfl rfl) ?_
  refine JL_pd rfl (det_move rfl) ?_
  refine JL_step rfl rfl rfl (jo_callv rfl rfl Try.call31 rfl (ready_j a c ls need at_)) fun _ => ?_
  refine JL_pd rfl (det_not rfl) ?_
  refine JL_pd rfl (det_move rfl) ?_
  -- stop: guard 5
  by_cases hr : readyB ls need at_ = true
  · refine JL_is (d0 := 18) false rfl (by rw [hr]; rfl) (fun g1 => ?_)
    refine JL_guard rfl rfl g1 ?_
    refine JL_pd rfl (det_move rfl) ?_
    refine JL_guard rfl rfl g1 ?_
    refine JL_pd rfl (det_len rfl Try.runUnderlying22) ?_
    refine JL_guard rfl rfl g1 ?_
    refine JL_pd rfl (det_gtr rfl rfl) ?_
    refine JL_pd rfl (det_pick_f rfl g1 rfl) ?_
    refine JL_nil ?_
    refine JE_seq ?_
    -- stop: cond
    refine JC_if rfl (fun h1 => ?_) (fun h1 => ?_)
    · refine JC_seq ?_
      refine JC_region ?_
      refine JL_step rfl rfl rfl (jo_callv rfl rfl Try.call16 rfl (awake_j)) fun _ => ?_
      refine JL_pd rfl (det_assign rfl) ?_
      refine JL_nil ?_
      refine JE_seq ?_
      refine JC_ret ?_
      refine JE_seq_ret ?_
      -- stop: out
      refine JE_out (.inl rfl) () (results1 Try.results11 (res_tmp rfl)) rfl (List.Perm.refl _) (fun _ _ => trivial)
    · have hr2 := hr
      unfold readyB at hr2
      rw [Bool.and_eq_true, decide_eq_true_eq, decide_eq_true_eq] at hr2
      obtain ⟨hl9, hE⟩ := hr2
      obtain ⟨ht, hna, ha1, ha2⟩ := ask_of hE
      obtain ⟨hl6, hV⟩ := tar_of ht
      have hn12 := am12_of hna
      have hoj := lOffers_j a c ls (by omega)
      have hlj := lList_j p pa pc (by omega)
      have hbu := fun a2 c2 => Best_u a2 c2 ls need at_
      have hpp := fun q co a2 c2 a3 c3 => ProvePurchase_j a2 c2 ls need at_ a3 c3 q co (by omega)
      have hno := fun hb => bR_none (need := need) (ls := ls) (at_ := at_) hE hb
      have hsm := fun b hb => bR_ok (need := need) (ls := ls) (at_ := at_) hE (b := b) hb
      have hsd := fun b hb => bst_sound at_ ls need b hV hn12 hb
      have hpn := fun hb => prov_none (at_ := at_) hV hn12 hb
      have hps := fun b (hb : bst at_ ls need = some b) => prov_self hV hn12 hE hb
      have hpb := fun b (hb : bst at_ ls need = some b) p co hp => prov_best (p := p) (cost := co) hV hn12 hb hp
      generalize bst at_ ls need = B at hno hsm hsd hpn hps hpb
      refine JC_skip ?_
      refine JE_seq ?_
      refine JC_seq ?_
      -- stop: draw
      refine JC_keep b5 noFp ?_
      refine JC_draw [] (by kernel_rfl) ?_
      refine JA_pd (i := 0) rfl (by kernel_rfl) rfl rfl (det_move rfl) ?_
      refine JA_dt (i := 2) rfl (by kernel_rfl) (by kernel_rfl) rfl rfl (det_loadKA rfl Try.isAgg52 Try.sizeOf52 rfl rfl) ?_
      refine JA_pd (i := 4) rfl (by kernel_rfl) rfl rfl (det_move rfl) ?_
      refine JA_one (i := 1) (by kernel_rfl) rfl rfl (jo_call rfl rfl Try.call33 rfl (hoj)) (fun _ => ⟨hsub_drop 0 rfl, fun _ h => h.2⟩) fun x26 => ?_
      refine JA_one (i := 3) (by kernel_rfl) rfl rfl (jo_callv rfl rfl Try.call34 rfl (lAm_j _)) (fun _ => ⟨hsub_refl, fun _ h => h⟩) fun _ => ?_
      refine JA_one (i := 5) (by kernel_rfl) rfl rfl (jo_call rfl rfl Try.call32 rfl (hbu _ _)) (fun _ => ⟨hsub_drop 0 rfl, fun _ h => h.2⟩) fun x30 => ?_
      refine JA_pd (i := 6) rfl (by kernel_rfl) rfl rfl (det_move rfl) ?_
      refine JA_pd (i := 7) rfl (by kernel_rfl) rfl rfl (det_extract rfl rfl) ?_
      refine JA_pd (i := 8) rfl (by kernel_rfl) rfl rfl (det_extract rfl rfl) ?_
      refine JA_pd (i := 9) rfl (by kernel_rfl) rfl rfl (det_extract rfl rfl) ?_
      refine JA_pd (i := 10) rfl (by kernel_rfl) rfl rfl (det_assign rfl) ?_
      refine JA_pd (i := 11) rfl (by kernel_rfl) rfl rfl (det_assign rfl) ?_
      refine JA_pd (i := 12) rfl (by kernel_rfl) rfl rfl (det_assign rfl) ?_
      refine JA_done (by kernel_rfl) ?_
      refine JE_seq ?_
      refine JC_seq ?_
      refine JC_seq ?_
      refine JC_region ?_
      refine JL_pd rfl (det_move rfl) ?_
      refine JL_pd rfl (det_neq rfl rfl) ?_
      refine JL_nil ?_
      refine JE_seq ?_
      -- stop: cond
      cases B with
      | none =>
        obtain ⟨e1, e2⟩ := hno rfl
        rw [e1, e2]
        have hp0 := hpp p 1099511627776
        rw [hpn rfl p 1099511627776] at hp0
        refine JC_ifn rfl (fun h2 => ?_) (fun h2 => ?_)
        · refine JC_seq ?_
          refine JC_draw [] (by kernel_rfl) ?_
          refine JA_pd (i := 0) rfl (by kernel_rfl) rfl rfl (det_move rfl) ?_
          refine JA_pd (i := 1) rfl (by kernel_rfl) rfl rfl (det_eql rfl rfl) ?_
          refine JA_pd (i := 2) rfl (by kernel_rfl) rfl rfl (det_move rfl) ?_
          -- stop: guard 2
          skip
          refine JA_is (d0 := 38) true rfl (by rfl) (fun g1 => ?_)
          refine JA_gpd (i := 3) rfl (by kernel_rfl) rfl rfl rfl rfl g1 (det_move rfl) ?_
          refine JA_gdt (i := 5) rfl (by kernel_rfl) (by kernel_rfl) rfl rfl rfl rfl g1 (det_loadKA rfl Try.isAgg52 Try.sizeOf52 rfl rfl) ?_
          refine JA_gpd (i := 7) rfl (by kernel_rfl) rfl rfl rfl rfl g1 (det_move rfl) ?_
          refine JA_gpd (i := 8) rfl (by kernel_rfl) rfl rfl rfl rfl g1 (det_move rfl) ?_
          refine JA_gone (i := 4) (by kernel_rfl) rfl rfl rfl g1 rfl (jo_call rfl rfl Try.call33 rfl (hoj)) (fun _ => ⟨hsub_drop 0 rfl, fun _ h => h.2⟩) fun x40 => ?_
          refine JA_gone (i := 6) (by kernel_rfl) rfl rfl rfl g1 rfl (jo_callv rfl rfl Try.call34 rfl (lAm_j _)) (fun _ => ⟨hsub_refl, fun _ h => h⟩) fun _ => ?_
          refine JA_gone (i := 9) (by kernel_rfl) rfl rfl rfl g1 rfl (jo_call rfl rfl Try.call18 rfl (hlj)) (fun _ => ⟨hsub_drop 0 rfl, fun _ h => h.2⟩) fun x45 => ?_
          refine JA_gone (i := 10) (by kernel_rfl) rfl rfl rfl g1 rfl (jo_callv rfl rfl Try.call41 rfl (hp0 _ _ _ _)) (fun _ => ⟨hsub_refl, fun _ h => h⟩) fun _ => ?_
          refine JA_gpd (i := 11) rfl (by kernel_rfl) rfl rfl rfl rfl g1 (det_not rfl) ?_
          refine JA_pd (i := 12) rfl (by kernel_rfl) rfl rfl (det_pick_t rfl g1 rfl) ?_
          refine JA_pd (i := 13) rfl (by kernel_rfl) rfl rfl (det_move rfl) ?_
          refine JA_is (d0 := 49) true rfl (by rfl) (fun g2 => ?_)
          refine JA_gone (i := 14) (by kernel_rfl) rfl rfl rfl g2 rfl (jo_callv rfl rfl Try.call16 rfl (awake_j)) (fun _ => ⟨hsub_refl, fun _ h => h⟩) fun _ => ?_
          refine JA_pd (i := 15) rfl (by kernel_rfl) rfl rfl (det_pick_t rfl g2 rfl) ?_
          refine JA_pd (i := 16) rfl (by kernel_rfl) rfl rfl (det_assign rfl) ?_
          refine JA_done (by kernel_rfl) ?_
          refine JE_seq ?_
          refine JC_ret ?_
          refine JE_seq_ret ?_
          -- stop: out
          refine JE_out (.inl rfl) () (results1 Try.results11 (res_tmp rfl)) rfl (List.Perm.refl _) (fun _ _ => trivial)
        · cases h2
      | some b =>
        obtain ⟨e1, e2⟩ := hsm b rfl
        obtain ⟨s1, s2, s3⟩ := hsd b rfl
        have hbl := alP_len s1
        have hbc : b.cost = coP ls b.list := congrArg Bt.cost s3
        have hb0 := hvP_0 hV s1
        rw [e1, e2, show bList (some b) = b.list from rfl, show bCost (some b) = b.cost from rfl]
        have hp1 := hpp b.list b.cost
        rw [hps b rfl] at hp1
        have hp2 := hpp p (b.cost - 1)
        have hf2 : provB ls need at_ p (b.cost - 1) = false := by
          cases hq : provB ls need at_ p (b.cost - 1) with
          | false => rfl
          | true => have := hpb b rfl p _ hq; omega
        rw [hf2] at hp2
        have hp3 := hpp p b.cost
        have hcj := fun a3 c3 => Cost_j a c ls at_ a3 c3 b.list (by omega) hV s1
        refine JC_ifn rfl (fun h2 => ?_) (fun h2 => ?_)
        · exact absurd rfl h2
        refine JC_skip ?_
        refine JE_seq ?_
        refine JC_seq ?_
        refine JC_seq ?_
        refine JC_draw [] (by kernel_rfl) ?_
        refine JA_pd (i := 0) rfl (by kernel_rfl) rfl rfl (det_move rfl) ?_
        refine JA_pd (i := 1) rfl (by kernel_rfl) rfl rfl (det_len rfl Try.runUnderlying22) ?_
        refine JA_pd (i := 2) rfl (by kernel_rfl) rfl rfl (det_move rfl) ?_
        refine JA_pd (i := 3) rfl (by kernel_rfl) rfl rfl (det_len rfl Try.runUnderlying50) ?_
        refine JA_pd (i := 4) rfl (by kernel_rfl) rfl rfl (det_neq rfl rfl) ?_
        refine JA_pd (i := 5) rfl (by kernel_rfl) rfl rfl (det_move rfl) ?_
        -- stop: guard 5
        refine JA_is (d0 := 57) false rfl (by exact congrArg not (decide_eq_true (by omega))) (fun g2 => ?_)
        refine JA_gpd (i := 6) rfl (by kernel_rfl) rfl rfl rfl rfl g2 (det_move rfl) ?_
        refine JA_gpd (i := 7) rfl (by kernel_rfl) rfl rfl rfl rfl g2 (det_move rfl) ?_
        refine JA_gpd (i := 9) rfl (by kernel_rfl) rfl rfl rfl rfl g2 (det_move rfl) ?_
        -- stop: op  8 t60 := (call (Call (value f45) (t58 t59) (50 22)))   <6 7 5 5>   GUARD (some (Prod 5 false))   59
        refine JA_gone (i := 8) (by kernel_rfl) rfl rfl rfl g2 rfl (jo_callv rfl rfl Try.call45 rfl (hcj x30.1 x30.2)) (fun _ => ⟨hsub_refl, fun _ h => h⟩) fun _ => ?_
        refine JA_gpd (i := 10) rfl (by kernel_rfl) rfl rfl rfl rfl g2 (det_neq rfl rfl) ?_
        refine JA_pd (i := 11) rfl (by kernel_rfl) rfl rfl (det_pick_f rfl g2 rfl) ?_
        refine JA_pd (i := 12) rfl (by kernel_rfl) rfl rfl (det_move rfl) ?_
        -- stop: guard 12
        refine JA_is (d0 := 64) false rfl (by exact congrArg not (decide_eq_true (by omega))) (fun g3 => ?_)
        refine JA_gpd (i := 13) rfl (by kernel_rfl) rfl rfl rfl rfl g3 (det_move rfl) ?_
        refine JA_gdt (i := 15) rfl (by kernel_rfl) (by kernel_rfl) rfl rfl rfl rfl g3 (det_loadKA rfl Try.isAgg52 Try.sizeOf52 rfl rfl) ?_
        refine JA_gpd (i := 17) rfl (by kernel_rfl) rfl rfl rfl rfl g3 (det_move rfl) ?_
        refine JA_gpd (i := 18) rfl (by kernel_rfl) rfl rfl rfl rfl g3 (det_move rfl) ?_
        refine JA_gpd (i := 20) rfl (by kernel_rfl) rfl rfl rfl rfl g3 (det_move rfl) ?_
        refine JA_gone (i := 14) (by kernel_rfl) rfl rfl rfl g3 rfl (jo_call rfl rfl Try.call33 rfl (hoj)) (fun _ => ⟨hsub_drop 0 rfl, fun _ h => h.2⟩) fun x66 => ?_
        refine JA_gone (i := 16) (by kernel_rfl) rfl rfl rfl g3 rfl (jo_callv rfl rfl Try.call34 rfl (lAm_j _)) (fun _ => ⟨hsub_refl, fun _ h => h⟩) fun _ => ?_
        -- stop: op 19 t71 := (call (Call (value f18) (t70) (22)))   <18 16 12>   GUARD (some (Prod 12 false))   59
        refine JA_gone (i := 19) (by kernel_rfl) rfl rfl rfl g3 rfl (jo_call rfl rfl Try.call18 rfl (lList_j b.list x30.1 x30.2 (by omega))) (fun _ => ⟨hsub_drop 0 rfl, fun _ h => h.2⟩) fun y1 => ?_
        -- stop: op 21 t73 := (call (Call (value f41) (t66 t68 t69 t71 t72) (58 60 3 22 3)))   <14 16 17 19 20 19 12>   GUARD (some (Prod 12 false))   59
        refine JA_gone (i := 21) (by kernel_rfl) rfl rfl rfl g3 rfl (jo_callv rfl rfl Try.call41 rfl (hp1 x66.1 x66.2 y1.1 y1.2)) (fun _ => ⟨hsub_refl, fun _ h => h⟩) fun _ => ?_
        refine JA_gpd (i := 22) rfl (by kernel_rfl) rfl rfl rfl rfl g3 (det_not rfl) ?_
        refine JA_pd (i := 23) rfl (by kernel_rfl) rfl rfl (det_pick_f rfl g3 rfl) ?_
        refine JA_pd (i := 24) rfl (by kernel_rfl) rfl rfl (det_move rfl) ?_
        -- stop: guard 24
        refine JA_is (d0 := 76) false rfl (by rfl) (fun g4 => ?_)
        refine JA_gpd (i := 25) rfl (by kernel_rfl) rfl rfl rfl rfl g4 (det_move rfl) ?_
        refine JA_gdt (i := 27) rfl (by kernel_rfl) (by kernel_rfl) rfl rfl rfl rfl g4 (det_loadKA rfl Try.isAgg52 Try.sizeOf52 rfl rfl) ?_
        refine JA_gpd (i := 29) rfl (by kernel_rfl) rfl rfl rfl rfl g4 (det_move rfl) ?_
        refine JA_gpd (i := 30) rfl (by kernel_rfl) rfl rfl rfl rfl g4 (det_move rfl) ?_
        refine JA_gpd (i := 32) rfl (by kernel_rfl) rfl rfl rfl rfl g4 (det_move rfl) ?_
        refine JA_gpd (i := 33) rfl (by kernel_rfl) rfl rfl rfl rfl g4 (det_sub rfl rfl ⟨by omega, by omega⟩) ?_
        refine JA_gone (i := 26) (by kernel_rfl) rfl rfl rfl g4 rfl (jo_call rfl rfl Try.call33 rfl (hoj)) (fun _ => ⟨hsub_drop 0 rfl, fun _ h => h.2⟩) fun x78 => ?_
        refine JA_gone (i := 28) (by kernel_rfl) rfl rfl rfl g4 rfl (jo_callv rfl rfl Try.call34 rfl (lAm_j _)) (fun _ => ⟨hsub_refl, fun _ h => h⟩) fun _ => ?_
        -- stop: op 31 t83 := (call (Call (value f18) (t82) (22)))   <30 28 24>   GUARD (some (Prod 24 false))   59
        refine JA_gone (i := 31) (by kernel_rfl) rfl rfl rfl g4 rfl (jo_call rfl rfl Try.call18 rfl (hlj)) (fun _ => ⟨hsub_drop 0 rfl, fun _ h => h.2⟩) fun y2 => ?_
        -- stop: op 34 t86 := (call (Call (value f41) (t78 t80 t81 t83 t85) (58 60 3 22 3)))   <26 28 29 31 33 31 24>   GUARD (some (Prod 24 false))   59
        refine JA_gone (i := 34) (by kernel_rfl) rfl rfl rfl g4 rfl (jo_callv rfl rfl Try.call41 rfl (hp2 x78.1 x78.2 y2.1 y2.2)) (fun _ => ⟨hsub_refl, fun _ h => h⟩) fun _ => ?_
        refine JA_pd (i := 35) rfl (by kernel_rfl) rfl rfl (det_pick_f rfl g4 rfl) ?_
        refine JA_done (by kernel_rfl) ?_
        refine JE_seq ?_
        -- stop: cond
        refine JC_cond rfl (fun h3 => ?_) (fun h3 => ?_)
        · cases h3
        refine JC_skip ?_
        refine JE_seq ?_
        refine JC_seq ?_
        refine JC_draw [] (by kernel_rfl) ?_
        refine JA_pd (i := 0) rfl (by kernel_rfl) rfl rfl (det_move rfl) ?_
        refine JA_dt (i := 2) rfl (by kernel_rfl) (by kernel_rfl) rfl rfl (det_loadKA rfl Try.isAgg52 Try.sizeOf52 rfl rfl) ?_
        refine JA_pd (i := 4) rfl (by kernel_rfl) rfl rfl (det_move rfl) ?_
        refine JA_pd (i := 5) rfl (by kernel_rfl) rfl rfl (det_move rfl) ?_
        refine JA_pd (i := 7) rfl (by kernel_rfl) rfl rfl (det_move rfl) ?_
        refine JA_one (i := 1) (by kernel_rfl) rfl rfl (jo_call rfl rfl Try.call33 rfl (hoj)) (fun _ => ⟨hsub_drop 0 rfl, fun _ h => h.2⟩) fun x89 => ?_
        refine JA_one (i := 3) (by kernel_rfl) rfl rfl (jo_callv rfl rfl Try.call34 rfl (lAm_j _)) (fun _ => ⟨hsub_refl, fun _ h => h⟩) fun _ => ?_
        -- stop: op  6 t94 := (call (Call (value f18) (t93) (22)))   <5 3>   62
        refine JA_one (i := 6) (by kernel_rfl) rfl rfl (jo_call rfl rfl Try.call18 rfl (hlj)) (fun _ => ⟨hsub_drop 0 rfl, fun _ h => h.2⟩) fun y3 => ?_
        -- stop: op  8 t96 := (call (Call (value f41) (t89 t91 t92 t94 t95) (58 60 3 22 3)))   <1 3 4 6 7 6>   62
        refine JA_one (i := 8) (by kernel_rfl) rfl rfl (jo_callv rfl rfl Try.call41 rfl (hp3 x89.1 x89.2 y3.1 y3.2)) (fun _ => ⟨hsub_refl, fun _ h => h⟩) fun _ => ?_
        refine JA_pd (i := 9) rfl (by kernel_rfl) rfl rfl (det_assign rfl) ?_
        refine JA_done (by kernel_rfl) ?_
        refine JE_seq ?_
        refine JC_seq ?_
        refine JC_region ?_
        refine JL_pd rfl (det_move rfl) ?_
        refine JL_pd rfl (det_not rfl) ?_
        refine JL_pd rfl (det_move rfl) ?_
        -- stop: guard 2
        by_cases hq : provB ls need at_ p b.cost = true
        · obtain ⟨q1, q2, q3, q4⟩ := hpb b rfl p _ hq
          refine JL_is (d0 := 99) false rfl (by rw [hq]; rfl) (fun g5 => ?_)
          refine JL_guard rfl rfl g5 ?_
          refine JL_pd rfl (det_move rfl) ?_
          refine JL_guard rfl rfl g5 ?_
          refine JL_pd rfl (det_move rfl) ?_
          refine JL_guard rfl rfl g5 ?_
          refine JL_pd rfl (det_move rfl) ?_
          refine JL_guard rfl rfl g5 ?_
          -- stop: op  6 t103 := (call (Call (value f47) (t100 t101 t102) (50 22 22)))   <3 4 5 2 2>   63
          refine JL_step rfl rfl rfl (jo_callv rfl rfl Try.call47 rfl (Better_j a c ls at_ pa pc p x30.1 x30.2 b.list hl6 hV q1 s1)) fun _ => ?_
          refine JL_guard rfl rfl g5 ?_
          refine JL_pd rfl (det_not rfl) ?_
          refine JL_pd rfl (det_pick_f rfl g5 rfl) ?_
          refine JL_pd rfl (det_move rfl) ?_
          -- stop: guard 9
          have hbb : betB ls p b.list = false := by unfold betB; rw [← s3]; exact decide_eq_false q4
          rw [hbb]
          skip
          refine JL_is (d0 := 106) true rfl (by rfl) (fun g1 => ?_)
          refine JL_guard rfl rfl g1 ?_
          refine JL_step rfl rfl rfl (jo_callv rfl rfl Try.call16 rfl (awake_j)) fun _ => ?_
          refine JL_pd rfl (det_pick_t rfl g1 rfl) ?_
          refine JL_pd rfl (det_assign rfl) ?_
          refine JL_nil ?_
          refine JE_seq ?_
          refine JC_ret ?_
          -- stop: out
          refine JE_out (.inl rfl) () (results1 Try.results11 (res_tmp rfl)) rfl (List.Perm.refl _) (fun _ _ => trivial)
        · rw [Bool.not_eq_true] at hq
          refine JL_is (d0 := 99) true rfl (by rw [hq]; rfl) (fun g5 => ?_)
          refine JL_skip rfl rfl g5 rfl ?_
          refine JL_skip rfl rfl g5 rfl ?_
          refine JL_skip rfl rfl g5 rfl ?_
          refine JL_skip rfl rfl g5 rfl ?_
          refine JL_skip rfl rfl g5 rfl ?_
          refine JL_pd rfl (det_pick_t rfl g5 rfl) ?_
          refine JL_pd rfl (det_move rfl) ?_
          refine JL_guard rfl rfl rfl ?_
          refine JL_step rfl rfl rfl (jo_callv rfl rfl Try.call16 rfl (awake_j)) fun _ => ?_
          refine JL_pd rfl (det_pick_t rfl rfl rfl) ?_
          refine JL_pd rfl (det_assign rfl) ?_
          refine JL_nil ?_
          refine JE_seq ?_
          refine JC_ret ?_
          -- stop: out
          refine JE_out (.inl rfl) () (results1 Try.results11 (res_tmp rfl)) rfl (List.Perm.refl _) (fun _ _ => trivial)
  · rw [Bool.not_eq_true] at hr
    refine JL_is (d0 := 18) true rfl (by rw [hr]; rfl) (fun g1 => ?_)
    refine JL_skip rfl rfl g1 rfl ?_
    refine JL_skip rfl rfl g1 rfl ?_
    refine JL_skip rfl rfl g1 rfl ?_
    refine JL_pd rfl (det_pick_t rfl g1 rfl) ?_
    refine JL_nil ?_
    refine JE_seq ?_
    refine JC_condT rfl rfl ?_
    refine JC_seq ?_
    refine JC_region ?_
    refine JL_step rfl rfl rfl (jo_callv rfl rfl Try.call16 rfl (awake_j)) fun _ => ?_
    refine JL_pd rfl (det_assign rfl) ?_
    refine JL_nil ?_
    refine JE_seq ?_
    refine JC_ret ?_
    refine JE_seq_ret ?_
    -- stop: out
    refine JE_out (.inl rfl) () (results1 Try.results11 (res_tmp rfl)) rfl (List.Perm.refl _) (fun _ _ => trivial)
end Go.Proofs.Ytjbmkdbgobmclaa
