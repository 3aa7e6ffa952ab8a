/- The statement TopStruck: the walk. -/
import Derived.Test.YthpkgabckklojaaGreatKI
set_option linter.unusedSimpArgs false
set_option linter.unusedVariables false
namespace Go.Proofs.YthpkgabckklojaaGreat.Rk
open Go.RowKit Go.Shelf

def blL (l : La) (s : St) (B i : Nat) : List Rg := (List.range i).map fun k => rowB l s (B + k)
def boL (over : List St) (B i : Nat) : List Int := (List.range i).map fun k => (over.getD (B + k) default).b
theorem blL_len (l : La) (s : St) (B i : Nat) : (blL l s B i).length = i := by simp [blL]
theorem boL_len (over : List St) (B i : Nat) : (boL over B i).length = i := by simp [boL]
theorem blL_snoc (l : La) (s : St) (B i : Nat) : blL l s B (i + 1) = blL l s B i ++ [rowB l s (B + i)] := by
  unfold blL
  rw [List.range_succ, List.map_append]; rfl
theorem boL_snoc (over : List St) (B i : Nat) : boL over B (i + 1) = boL over B i ++ [(over.getD (B + i) default).b] := by
  unfold boL
  rw [List.range_succ, List.map_append]; rfl
theorem Falls_m (r : Rk) (a : Option Addr) (c : Nat) (V : VR r) (la : Option Addr) (lc : Nat) (l : List Int) (hl : VP r l) (ba : Option Addr) (bc : Nat) (ball : List Rg) (hB : VB r ball) (m : Nat) (hm : ball.length = m) :
    Cr Tryz.prog 22 [vRk r a c, .slice la l.length lc, .slice ba m bc] (KAnd (KRk r a c) (KAnd (KSl la l.length lc encN l) (KSl ba m bc encRg ball)))
      (fun q : FallQ r (ofL l) ball => .tuple #[.slice q.2.1.1 (lsI q.1.1.1).length q.2.1.2, .slice q.2.2.1 (lsI q.1.1.2).length q.2.2.2, I 0]) (fun q => KAnd (KSl q.2.1.1 (lsI q.1.1.1).length q.2.1.2 encN (lsI q.1.1.1)) (KSl q.2.2.1 (lsI q.1.1.2).length q.2.2.2 encN (lsI q.1.1.2))) := by
  subst hm
  exact Falls_n r a c V la lc l hl ba bc ball hB
theorem rowB_enc {l : La} {s : St} {k : Nat} (h : 0 < (rowL l s k).length) (h2 : (rowL l s k).length - 1 < (rowL l s k).length) : [I (rowL l s k)[0].b, I (rowL l s k)[(rowL l s k).length - 1].b] = encRg (rowB l s k) := by
  have e0 : (rowL l s k).getD 0 default = (rowL l s k)[0] := by rw [List.getD_eq_getElem?_getD, List.getElem?_eq_getElem h]; rfl
  have e1 : (rowL l s k).getD ((rowL l s k).length - 1) default = (rowL l s k)[(rowL l s k).length - 1] := by rw [List.getD_eq_getElem?_getD, List.getElem?_eq_getElem h2]; rfl
  unfold rowB
  rw [e0, e1]; rfl
theorem over_enc {over : List St} {k : Nat} (h : k < over.length) : [I over[k].b] = encN (over.getD k default).b := by
  rw [List.getD_eq_getElem?_getD, List.getElem?_eq_getElem h]; rfl
set_option maxRecDepth 100000 in
set_option maxHeartbeats 4000000 in
set_option synthInstance.maxHeartbeats 1000000 in
set_option synthInstance.maxSize 2000 in
theorem TopStruck_j (l : La) (s : St) (ha pa : Option Addr) (hc pc : Nat) (r : Rk) (ra : Option Addr) (rc : Nat) (qa : Option Addr) (qc : Nat) (pins : List Int) (wa : Option Addr) (wc : Nat) (ws : List Int) (oa : Option Addr) (oc : Nat) (os : List Int) (hw : wordsOk ws) (ho : wordsOk os) :
    Cv Tryz.prog 3 [.agg #[I l.boards, I l.rows, .slice ha l.hooks.length hc, .slice pa l.patches.length pc], .agg #[I s.b, I s.d], vRk r ra rc, .slice qa pins.length qc, .slice wa ws.length wc, .slice oa os.length oc] (KAnd (KLane l ha hc pa pc) (KAnd (KRk r ra rc) (KAnd (KSl qa pins.length qc encN pins) (KAnd (KSl wa ws.length wc encU ws) (KSl oa os.length oc encU os))))) (.bool true) := by
  refine Cx_of Tryz.func3 rfl Tryz.ntmps3 rfl fun w0 M0 => ?_
  refine JC_seq ?_
  refine JC_region ?_
  refine JL_step rfl rfl rfl (jo_box rfl rfl) fun b6 => ?_
  refine JL_step rfl rfl rfl (jo_box rfl rfl) fun b7 => ?_
  refine JL_step rfl rfl rfl (jo_box rfl rfl) fun b8 => ?_
  refine JL_pd rfl (det_assign rfl) ?_
  refine JL_nil ?_
  refine JE_seq ?_
  refine JC_seq ?_
  refine JC_seq ?_
  refine JC_region ?_
  refine JL_dt rfl (det_loadKA rfl Tryz.isAgg25 Tryz.sizeOf25 rfl rfl) ?_
  refine JL_step rfl rfl rfl (jo_callv rfl rfl Tryz.call5 rfl (lThin_j l ha pa hc pc)) fun _ => ?_
  refine JL_pd rfl (det_not rfl) ?_
  refine JL_pd rfl (det_move rfl) ?_
  -- stop: guard 3
  refine JL_split (d0 := 38) rfl (fun g1 => ?_) (fun g1 => ?_)
  · refine JL_skip rfl rfl g1 rfl ?_
    refine JL_skip rfl rfl g1 rfl ?_
    refine JL_skip rfl rfl g1 rfl ?_
    refine JL_pd rfl (det_pick_t rfl g1 rfl) ?_
    refine JL_pd rfl (det_move rfl) ?_
    refine JL_skip rfl rfl rfl rfl ?_
    refine JL_skip rfl rfl rfl rfl ?_
    refine JL_skip rfl rfl rfl rfl ?_
    refine JL_skip rfl rfl rfl rfl ?_
    refine JL_pd rfl (det_pick_t rfl rfl rfl) ?_
    refine JL_pd rfl (det_move rfl) ?_
    refine JL_skip rfl rfl rfl rfl ?_
    refine JL_skip rfl rfl rfl rfl ?_
    refine JL_skip rfl rfl rfl rfl ?_
    refine JL_skip rfl rfl rfl rfl ?_
    refine JL_pd rfl (det_pick_t rfl rfl rfl) ?_
    refine JL_pd rfl (det_move rfl) ?_
    refine JL_skip rfl rfl rfl rfl ?_
    refine JL_skip rfl rfl rfl rfl ?_
    refine JL_skip rfl rfl rfl rfl ?_
    refine JL_pd rfl (det_pick_t rfl rfl rfl) ?_
    refine JL_pd rfl (det_move rfl) ?_
    refine JL_skip rfl rfl rfl rfl ?_
    refine JL_skip rfl rfl rfl rfl ?_
    refine JL_skip rfl rfl rfl rfl ?_
    refine JL_skip rfl rfl rfl rfl ?_
    refine JL_pd rfl (det_pick_t rfl rfl rfl) ?_
    refine JL_pd rfl (det_move rfl) ?_
    refine JL_skip rfl rfl rfl rfl ?_
    refine JL_skip rfl rfl rfl rfl ?_
    refine JL_skip rfl rfl rfl rfl ?_
    refine JL_skip rfl rfl rfl rfl ?_
    refine JL_skip rfl rfl rfl rfl ?_
    refine JL_pd rfl (det_pick_t rfl rfl rfl) ?_
    refine JL_nil ?_
    refine JE_seq ?_
    refine JC_condT rfl rfl ?_
    refine JC_seq ?_
    refine JC_region ?_
    refine JL_step rfl rfl rfl (jo_callv rfl rfl Tryz.call11 rfl (struck_j)) fun _ => ?_
    refine JL_pd rfl (det_assign rfl) ?_
    refine JL_nil ?_
    refine JE_seq ?_
    refine JC_ret ?_
    refine JE_seq_ret ?_
    -- stop: out
    refine JE_out (.inl rfl) () (results1 Tryz.results3 (res_tmp rfl)) rfl (List.Perm.refl _) (fun _ _ => trivial)
  · refine JL_guard rfl rfl g1 ?_
    refine JL_dt rfl (det_loadKA rfl Tryz.isAgg25 Tryz.sizeOf25 rfl rfl) ?_
    refine JL_guard rfl rfl g1 ?_
    refine JL_step rfl rfl rfl (jo_callv rfl rfl Tryz.call6 rfl (rFault_j l ha pa hc pc)) fun _ => ?_
    refine JL_guard rfl rfl g1 ?_
    refine JL_pd rfl (det_neq rfl rfl) ?_
    refine JL_pd rfl (det_pick_f rfl g1 rfl) ?_
    refine JL_pd rfl (det_move rfl) ?_
    -- stop: guard 8
    refine JL_split (d0 := 43) rfl (fun g2 => ?_) (fun g2 => ?_)
    · refine JL_skip rfl rfl g2 rfl ?_
      refine JL_skip rfl rfl g2 rfl ?_
      refine JL_skip rfl rfl g2 rfl ?_
      refine JL_skip rfl rfl g2 rfl ?_
      refine JL_pd rfl (det_pick_t rfl g2 rfl) ?_
      refine JL_pd rfl (det_move rfl) ?_
      refine JL_skip rfl rfl rfl rfl ?_
      refine JL_skip rfl rfl rfl rfl ?_
      refine JL_skip rfl rfl rfl rfl ?_
      refine JL_skip rfl rfl rfl rfl ?_
      refine JL_pd rfl (det_pick_t rfl rfl rfl) ?_
      refine JL_pd rfl (det_move rfl) ?_
      refine JL_skip rfl rfl rfl rfl ?_
      refine JL_skip rfl rfl rfl rfl ?_
      refine JL_skip rfl rfl rfl rfl ?_
      refine JL_pd rfl (det_pick_t rfl rfl rfl) ?_
      refine JL_pd rfl (det_move rfl) ?_
      refine JL_skip rfl rfl rfl rfl ?_
      refine JL_skip rfl rfl rfl rfl ?_
      refine JL_skip rfl rfl rfl rfl ?_
      refine JL_skip rfl rfl rfl rfl ?_
      refine JL_pd rfl (det_pick_t rfl rfl rfl) ?_
      refine JL_pd rfl (det_move rfl) ?_
      refine JL_skip rfl rfl rfl rfl ?_
      refine JL_skip rfl rfl rfl rfl ?_
      refine JL_skip rfl rfl rfl rfl ?_
      refine JL_skip rfl rfl rfl rfl ?_
      refine JL_skip rfl rfl rfl rfl ?_
      refine JL_pd rfl (det_pick_t rfl rfl rfl) ?_
      refine JL_nil ?_
      refine JE_seq ?_
      refine JC_condT rfl rfl ?_
      refine JC_seq ?_
      refine JC_region ?_
      refine JL_step rfl rfl rfl (jo_callv rfl rfl Tryz.call11 rfl (struck_j)) fun _ => ?_
      refine JL_pd rfl (det_assign rfl) ?_
      refine JL_nil ?_
      refine JE_seq ?_
      refine JC_ret ?_
      refine JE_seq_ret ?_
      -- stop: out
      refine JE_out (.inl rfl) () (results1 Tryz.results3 (res_tmp rfl)) rfl (List.Perm.refl _) (fun _ _ => trivial)
    · refine JL_guard rfl rfl g2 ?_
      refine JL_dt rfl (det_loadKA rfl Tryz.isAgg25 Tryz.sizeOf25 rfl rfl) ?_
      refine JL_guard rfl rfl g2 ?_
      refine JL_dt rfl (det_loadKA rfl Tryz.isAgg27 Tryz.sizeOf27 rfl rfl) ?_
      refine JL_guard rfl rfl g2 ?_
      refine JL_step rfl rfl rfl (jo_callv rfl rfl Tryz.call7 rfl (rIsStart_j l ha pa hc pc s)) fun _ => ?_
      refine JL_guard rfl rfl g2 ?_
      refine JL_pd rfl (det_not rfl) ?_
      refine JL_pd rfl (det_pick_f rfl g2 rfl) ?_
      refine JL_pd rfl (det_move rfl) ?_
      -- stop: guard 14
      refine JL_split (d0 := 49) rfl (fun g3 => ?_) (fun g3 => ?_)
      · refine JL_skip rfl rfl g3 rfl ?_
        refine JL_skip rfl rfl g3 rfl ?_
        refine JL_skip rfl rfl g3 rfl ?_
        refine JL_skip rfl rfl g3 rfl ?_
        refine JL_pd rfl (det_pick_t rfl g3 rfl) ?_
        refine JL_pd rfl (det_move rfl) ?_
        refine JL_skip rfl rfl rfl rfl ?_
        refine JL_skip rfl rfl rfl rfl ?_
        refine JL_skip rfl rfl rfl rfl ?_
        refine JL_pd rfl (det_pick_t rfl rfl rfl) ?_
        refine JL_pd rfl (det_move rfl) ?_
        refine JL_skip rfl rfl rfl rfl ?_
        refine JL_skip rfl rfl rfl rfl ?_
        refine JL_skip rfl rfl rfl rfl ?_
        refine JL_skip rfl rfl rfl rfl ?_
        refine JL_pd rfl (det_pick_t rfl rfl rfl) ?_
        refine JL_pd rfl (det_move rfl) ?_
        refine JL_skip rfl rfl rfl rfl ?_
        refine JL_skip rfl rfl rfl rfl ?_
        refine JL_skip rfl rfl rfl rfl ?_
        refine JL_skip rfl rfl rfl rfl ?_
        refine JL_skip rfl rfl rfl rfl ?_
        refine JL_pd rfl (det_pick_t rfl rfl rfl) ?_
        refine JL_nil ?_
        refine JE_seq ?_
        refine JC_condT rfl rfl ?_
        refine JC_seq ?_
        refine JC_region ?_
        refine JL_step rfl rfl rfl (jo_callv rfl rfl Tryz.call11 rfl (struck_j)) fun _ => ?_
        refine JL_pd rfl (det_assign rfl) ?_
        refine JL_nil ?_
        refine JE_seq ?_
        refine JC_ret ?_
        refine JE_seq_ret ?_
        -- stop: out
        refine JE_out (.inl rfl) () (results1 Tryz.results3 (res_tmp rfl)) rfl (List.Perm.refl _) (fun _ _ => trivial)
      · refine JL_guard rfl rfl g3 ?_
        refine JL_dt rfl (det_loadKA rfl Tryz.isAgg30 Tryz.sizeOf30 rfl rfl) ?_
        refine JL_guard rfl rfl g3 ?_
        refine JL_pd rfl (det_move rfl) ?_
        refine JL_guard rfl rfl g3 ?_
        refine JL_step rfl rfl rfl (jo_callv rfl rfl Tryz.call8 rfl (Thin_j r ra rc qa pins.length qc none 0 0)) fun _ => ?_
        refine JL_guard rfl rfl g3 ?_
        refine JL_pd rfl (det_not rfl) ?_
        refine JL_pd rfl (det_pick_f rfl g3 rfl) ?_
        refine JL_pd rfl (det_move rfl) ?_
        -- stop: guard 20
        refine JL_split (d0 := 55) rfl (fun g4 => ?_) (fun g4 => ?_)
        · refine JL_skip rfl rfl g4 rfl ?_
          refine JL_skip rfl rfl g4 rfl ?_
          refine JL_skip rfl rfl g4 rfl ?_
          refine JL_pd rfl (det_pick_t rfl g4 rfl) ?_
          refine JL_pd rfl (det_move rfl) ?_
          refine JL_skip rfl rfl rfl rfl ?_
          refine JL_skip rfl rfl rfl rfl ?_
          refine JL_skip rfl rfl rfl rfl ?_
          refine JL_skip rfl rfl rfl rfl ?_
          refine JL_pd rfl (det_pick_t rfl rfl rfl) ?_
          refine JL_pd rfl (det_move rfl) ?_
          refine JL_skip rfl rfl rfl rfl ?_
          refine JL_skip rfl rfl rfl rfl ?_
          refine JL_skip rfl rfl rfl rfl ?_
          refine JL_skip rfl rfl rfl rfl ?_
          refine JL_skip rfl rfl rfl rfl ?_
          refine JL_pd rfl (det_pick_t rfl rfl rfl) ?_
          refine JL_nil ?_
          refine JE_seq ?_
          refine JC_condT rfl rfl ?_
          refine JC_seq ?_
          refine JC_region ?_
          refine JL_step rfl rfl rfl (jo_callv rfl rfl Tryz.call11 rfl (struck_j)) fun _ => ?_
          refine JL_pd rfl (det_assign rfl) ?_
          refine JL_nil ?_
          refine JE_seq ?_
          refine JC_ret ?_
          refine JE_seq_ret ?_
          -- stop: out
          refine JE_out (.inl rfl) () (results1 Tryz.results3 (res_tmp rfl)) rfl (List.Perm.refl _) (fun _ _ => trivial)
        · refine JL_guard rfl rfl g4 ?_
          refine JL_dt rfl (det_loadKA rfl Tryz.isAgg30 Tryz.sizeOf30 rfl rfl) ?_
          refine JL_guard rfl rfl g4 ?_
          refine JL_step rfl rfl rfl (jo_callv rfl rfl Tryz.call9 rfl (Fault_j r ra rc)) fun _ => ?_
          refine JL_guard rfl rfl g4 ?_
          refine JL_pd rfl (det_neq rfl rfl) ?_
          refine JL_pd rfl (det_pick_f rfl g4 rfl) ?_
          refine JL_pd rfl (det_move rfl) ?_
          -- stop: guard 25
          refine JL_split (d0 := 60) rfl (fun g5 => ?_) (fun g5 => ?_)
          · refine JL_skip rfl rfl g5 rfl ?_
            refine JL_skip rfl rfl g5 rfl ?_
            refine JL_skip rfl rfl g5 rfl ?_
            refine JL_skip rfl rfl g5 rfl ?_
            refine JL_pd rfl (det_pick_t rfl g5 rfl) ?_
            refine JL_pd rfl (det_move rfl) ?_
            refine JL_skip rfl rfl rfl rfl ?_
            refine JL_skip rfl rfl rfl rfl ?_
            refine JL_skip rfl rfl rfl rfl ?_
            refine JL_skip rfl rfl rfl rfl ?_
            refine JL_skip rfl rfl rfl rfl ?_
            refine JL_pd rfl (det_pick_t rfl rfl rfl) ?_
            refine JL_nil ?_
            refine JE_seq ?_
            refine JC_condT rfl rfl ?_
            refine JC_seq ?_
            refine JC_region ?_
            refine JL_step rfl rfl rfl (jo_callv rfl rfl Tryz.call11 rfl (struck_j)) fun _ => ?_
            refine JL_pd rfl (det_assign rfl) ?_
            refine JL_nil ?_
            refine JE_seq ?_
            refine JC_ret ?_
            refine JE_seq_ret ?_
            -- stop: out
            refine JE_out (.inl rfl) () (results1 Tryz.results3 (res_tmp rfl)) rfl (List.Perm.refl _) (fun _ _ => trivial)
          · have hF0 : rFault r = 0 := by simpa using g5
            have V := vr_of hF0
            refine JL_guard rfl rfl g5 ?_
            refine JL_dt rfl (det_loadKA rfl Tryz.isAgg30 Tryz.sizeOf30 rfl rfl) ?_
            refine JL_guard rfl rfl g5 ?_
            refine JL_pd rfl (det_move rfl) ?_
            refine JL_guard rfl rfl g5 ?_
            refine JL_step rfl rfl rfl (jo_call rfl rfl Tryz.call10 rfl (Rising_j r ra rc V qa qc pins)) fun x63 => ?_
            refine JL_guard rfl rfl g5 ?_
            refine JL_pd rfl (det_not rfl) ?_
            refine JL_pd rfl (det_pick_f rfl g5 rfl) ?_
            refine JL_pd rfl (det_move rfl) ?_
            -- stop: guard 31
            refine JL_split (d0 := 66) rfl (fun g6 => ?_) (fun g6 => ?_)
            · refine JL_skip rfl rfl g6 rfl ?_
              refine JL_skip rfl rfl g6 rfl ?_
              refine JL_skip rfl rfl g6 rfl ?_
              refine JL_skip rfl rfl g6 rfl ?_
              refine JL_skip rfl rfl g6 rfl ?_
              refine JL_pd rfl (det_pick_t rfl g6 rfl) ?_
              refine JL_nil ?_
              refine JE_seq ?_
              refine JC_condT rfl rfl ?_
              refine JC_seq ?_
              refine JC_region ?_
              refine JL_step rfl rfl rfl (jo_callv rfl rfl Tryz.call11 rfl (struck_j)) fun _ => ?_
              refine JL_pd rfl (det_assign rfl) ?_
              refine JL_nil ?_
              refine JE_seq ?_
              refine JC_ret ?_
              refine JE_seq_ret ?_
              -- stop: out
              refine JE_out (.inl rfl) () (results1 Tryz.results3 (res_tmp rfl)) rfl (List.Perm.refl _) (fun _ _ => trivial)
            · have hl : VP r pins := x63.2 (by simpa using g6)
              refine JL_guard rfl rfl g6 ?_
              refine JL_pd rfl (det_fieldAddr rfl fo_30_0) ?_
              refine JL_guard rfl rfl g6 ?_
              refine JL_dt rfl (det_loadK rfl Tryz.isAgg3 rfl) ?_
              refine JL_guard rfl rfl g6 ?_
              refine JL_pd rfl (det_fieldAddr rfl fo_25_1) ?_
              refine JL_guard rfl rfl g6 ?_
              refine JL_dt rfl (det_loadK rfl Tryz.isAgg3 rfl) ?_
              refine JL_guard rfl rfl g6 ?_
              refine JL_pd rfl (det_gtr rfl rfl) ?_
              refine JL_pd rfl (det_pick_f rfl g6 rfl) ?_
              refine JL_nil ?_
              refine JE_seq ?_
              -- stop: cond
              refine JC_cond rfl (fun g7 => ?_) (fun g7 => ?_)
              · refine JC_seq ?_
                refine JC_region ?_
                refine JL_step rfl rfl rfl (jo_callv rfl rfl Tryz.call11 rfl (struck_j)) fun _ => ?_
                refine JL_pd rfl (det_assign rfl) ?_
                refine JL_nil ?_
                refine JE_seq ?_
                refine JC_ret ?_
                refine JE_seq_ret ?_
                -- stop: out
                refine JE_out (.inl rfl) () (results1 Tryz.results3 (res_tmp rfl)) rfl (List.Perm.refl _) (fun _ _ => trivial)
              · have hrr : r.rows ≤ l.rows := by have := of_decide_eq_false g7; omega
                have hf0 : fault l = 0 := by simpa using g2
                have hs0 : isStart l s = true := by simpa using g3
                have he : startErr l s = 0 := by unfold startErr; rw [if_neg (by omega), hs0]; rfl
                obtain ⟨Vl, h0⟩ := valid_start he
                have hth : l.patches.length ≤ 12 ∧ l.hooks.length ≤ 6 := by simpa [thin] using g1
                have hpl : pins.length ≤ 15 := by
                  simp only [Bool.not_eq_false', Bool.and_eq_true, decide_eq_true_eq] at g4
                  omega
                have hln := V.n
                have hr0 := V.r0
                have hr1 := V.r1
                have lr1 := Vl.r1
                have lr2 := Vl.r2
                obtain ⟨over, g, hT⟩ := pick_truth Vl hw (nR l) 0 s (onL_start h0)
                have hT := (show Truth l (nR l) 0 s _ over g by exact_mod_cast hT)
                obtain ⟨ol1, ol2, ol3, -⟩ := hT.len
                have hrch := hT.rch 0 rfl rfl
                refine JC_skip ?_
                refine JE_seq ?_
                refine JC_seq ?_
                refine JC_draw [] (by kernel_rfl) ?_
                refine JA_dt (i := 0) rfl (by kernel_rfl) (by kernel_rfl) rfl rfl (det_loadKA rfl Tryz.isAgg25 Tryz.sizeOf25 rfl rfl) ?_
                refine JA_dt (i := 2) rfl (by kernel_rfl) (by kernel_rfl) rfl rfl (det_loadKA rfl Tryz.isAgg27 Tryz.sizeOf27 rfl rfl) ?_
                refine JA_dt (i := 4) rfl (by kernel_rfl) (by kernel_rfl) rfl rfl (det_loadKA rfl Tryz.isAgg25 Tryz.sizeOf25 rfl rfl) ?_
                refine JA_dt (i := 5) rfl (by kernel_rfl) (by kernel_rfl) rfl rfl (det_loadKA rfl Tryz.isAgg27 Tryz.sizeOf27 rfl rfl) ?_
                refine JA_pd (i := 6) rfl (by kernel_rfl) rfl rfl (det_move rfl) ?_
                refine JA_one (i := 1) (by kernel_rfl) rfl rfl (jo_call rfl rfl Tryz.call13 rfl (lLane_j l ha pa hc pc (by omega) (by omega))) (fun _ => ⟨hsub_drop 0 rfl, fun _ h => h.2⟩) fun x76 => ?_
                refine JA_one (i := 3) (by kernel_rfl) rfl rfl (jo_callv rfl rfl Tryz.call14 rfl (lStart_j s)) (fun _ => ⟨hsub_refl, fun _ h => h⟩) fun _ => ?_
                refine JA_one (i := 7) (by kernel_rfl) rfl rfl (jo_call rfl rfl Tryz.call15 rfl (lPicked_j l s ws ha pa hc pc wa wc Vl h0 hw)) (fun _ => ⟨hsub_drop 0 rfl, fun _ h => h.2⟩) fun x82 => ?_
                refine JA_one (i := 8) (by kernel_rfl) rfl rfl (jo_call rfl rfl Tryz.call12 rfl (Play_jt x76.1.1 x76.2.1 x76.1.2 x76.2.2 x82.1 x82.2 he hT)) (fun _ => ⟨hsub_drop 0 rfl, fun _ h => h.2⟩) fun x83 => ?_
                refine JA_pd (i := 9) rfl (by kernel_rfl) rfl rfl (det_move rfl) ?_
                refine JA_pd (i := 10) rfl (by kernel_rfl) rfl rfl (det_extract rfl rfl) ?_
                refine JA_pd (i := 11) rfl (by kernel_rfl) rfl rfl (det_extract rfl rfl) ?_
                refine JA_pd (i := 12) rfl (by kernel_rfl) rfl rfl (det_extract rfl rfl) ?_
                refine JA_pd (i := 13) rfl (by kernel_rfl) rfl rfl (det_assign rfl) ?_
                refine JA_pd (i := 14) rfl (by kernel_rfl) rfl rfl (det_assign rfl) ?_
                refine JA_pd (i := 15) rfl (by kernel_rfl) rfl rfl (det_assign rfl) ?_
                refine JA_done (by kernel_rfl) ?_
                refine JE_seq ?_
                refine JC_seq ?_
                refine JC_seq ?_
                refine JC_region ?_
                refine JL_pd rfl (det_move rfl) ?_
                refine JL_pd rfl (det_neq rfl rfl) ?_
                refine JL_nil ?_
                refine JE_seq ?_
                -- stop: cond
                refine JC_ifn rfl (fun g8 => ?_) (fun g8 => ?_)
                · exact absurd rfl g8
                refine JC_skip ?_
                refine JE_seq ?_
                refine JC_seq ?_
                refine JC_seq ?_
                refine JC_region ?_
                refine JL_pd rfl (det_move rfl) ?_
                refine JL_nil ?_
                refine JE_seq ?_
                -- stop: cond
                refine JC_cond rfl (fun g9 => ?_) (fun g9 => ?_)
                · refine JC_seq ?_
                  refine JC_region ?_
                  refine JL_step rfl rfl rfl (jo_callv rfl rfl Tryz.call11 rfl (struck_j)) fun _ => ?_
                  refine JL_pd rfl (det_assign rfl) ?_
                  refine JL_nil ?_
                  refine JE_seq ?_
                  refine JC_ret ?_
                  refine JE_seq_ret ?_
                  -- stop: out
                  refine JE_out (.inl rfl) () (results1 Tryz.results3 (res_tmp rfl)) rfl (List.Perm.refl _) (fun _ _ => trivial)
                · have hol : over.length = nR l + 1 := ol2 g9
                  have hnr : ((nR l : Nat) : Int) = l.rows - 1 := by unfold nR; omega
                  obtain ⟨rn, hrn⟩ : ∃ rn : Nat, r.rows = (rn : Int) := ⟨r.rows.toNat, by omega⟩
                  obtain ⟨B, hBd⟩ : ∃ B : Nat, l.rows - r.rows = (B : Int) := ⟨(l.rows - r.rows).toNat, by omega⟩
                  refine JC_skip ?_
                  refine JE_seq ?_
                  refine JC_seq ?_
                  refine JC_region ?_
                  refine JL_pd rfl (det_assign rfl) ?_
                  refine JL_nil ?_
                  refine JE_seq ?_
                  refine JC_seq ?_
                  refine JC_region ?_
                  refine JL_pd rfl (det_assign rfl) ?_
                  refine JL_nil ?_
                  refine JE_seq ?_
                  refine JC_seq ?_
                  refine JC_seq ?_
                  refine JC_region ?_
                  refine JL_pd rfl (det_assign rfl) ?_
                  refine JL_nil ?_
                  refine JE_seq ?_
                  refine JC_block ?_
                  -- stop: loop
                  refine JC_nil 3 1 ?_
                  refine JC_nil 56 2 ?_
                  refine JC_loopF (γ := Nat × Value × Value) (fun q => q.1 ≤ rn) (fun q => [(18, I q.1), (16, q.2.1), (17, q.2.2)]) (fun q => [ow q.2.1 56 2 q.1 ((blL l s B q.1).flatMap encRg), ow q.2.2 3 1 q.1 ((boL over B q.1).flatMap encN)]) (fun q => rn - q.1) (0, .slice none 0 0, .slice none 0 0) (Nat.zero_le _) (stsub_consI rfl rfl (stsub_cons rfl (stsub_cons rfl stsub_nil))) (ht_ow rfl rfl (ht_ow rfl rfl ht_nil)) ?_
                  rintro ⟨i, v, pv⟩ hi K hK
                  dsimp only [List.cons_append, List.nil_append] at hi ⊢
                  refine JC_seq ?_
                  refine JC_seq ?_
                  refine JC_region ?_
                  refine JL_pd rfl (det_move rfl) ?_
                  refine JL_pd rfl (det_fieldAddr rfl fo_30_0) ?_
                  refine JL_dt rfl (det_loadK rfl Tryz.isAgg3 rfl) ?_
                  refine JL_pd rfl (det_lss rfl rfl) ?_
                  refine JL_nil ?_
                  refine JE_seq ?_
                  -- stop: cond
                  refine JC_if rfl (fun k1 => ?_) (fun k1 => ?_)
                  · have hi2 : i < rn := by omega
                    have hrow : l.rows - r.rows + (i : Int) = ((B + i : Nat) : Int) := by omega
                    have hov : B + i < over.length := by omega
                    have hmem : over[B + i] ∈ rowL l s (B + i) := by
                      have h1 := hrch (B + i) over[B + i] (List.getElem?_eq_getElem hov)
                      rw [Nat.zero_add] at h1
                      exact (mem_rowL Vl h0).2 h1
                    have hpos : 0 < (rowL l s (B + i)).length := List.length_pos_of_mem hmem
                    have hrl := rowL_len l s (B + i) Vl
                    refine JC_skip ?_
                    refine JE_seq ?_
                    refine JC_seq ?_
                    refine JC_block ?_
                    refine JC_seq ?_
                    refine JC_region ?_
                    refine JL_pd rfl (det_fieldAddr rfl fo_25_1) ?_
                    refine JL_dt rfl (det_loadK rfl Tryz.isAgg3 rfl) ?_
                    refine JL_pd rfl (det_fieldAddr rfl fo_30_0) ?_
                    refine JL_dt rfl (det_loadK rfl Tryz.isAgg3 rfl) ?_
                    refine JL_pd rfl (det_sub rfl rfl ⟨by omega, by omega⟩) ?_
                    refine JL_pd rfl (det_move rfl) ?_
                    refine JL_pd rfl (det_add rfl rfl ⟨by omega, by omega⟩) ?_
                    refine JL_pd rfl (det_assign rfl) ?_
                    refine JL_nil ?_
                    refine JE_seq ?_
                    refine JC_seq ?_
                    -- stop: region
                    rw [hrow]
                    refine JC_draw [] (by kernel_rfl) ?_
                    refine JA_dt (i := 0) rfl (by kernel_rfl) (by kernel_rfl) rfl rfl (det_loadKA rfl Tryz.isAgg25 Tryz.sizeOf25 rfl rfl) ?_
                    refine JA_dt (i := 2) rfl (by kernel_rfl) (by kernel_rfl) rfl rfl (det_loadKA rfl Tryz.isAgg27 Tryz.sizeOf27 rfl rfl) ?_
                    refine JA_pd (i := 4) rfl (by kernel_rfl) rfl rfl (det_move rfl) ?_
                    refine JA_one (i := 1) (by kernel_rfl) rfl rfl (jo_call rfl rfl Tryz.call13 rfl (lLane_j l ha pa hc pc (by omega) (by omega))) (fun _ => ⟨hsub_drop 0 rfl, fun _ h => h.2⟩) fun x106 => ?_
                    refine JA_one (i := 3) (by kernel_rfl) rfl rfl (jo_callv rfl rfl Tryz.call14 rfl (lStart_j s)) (fun _ => ⟨hsub_refl, fun _ h => h⟩) fun _ => ?_
                    refine JA_one (i := 5) (by kernel_rfl) rfl rfl (jo_call rfl rfl Tryz.call16 rfl (Reach_jo l s (B + i) x106.1.1 x106.2.1 x106.1.2 x106.2.2 he (by omega))) (fun _ => ⟨hsub_drop 0 rfl, fun _ h => h.2⟩) fun x110 => ?_
                    refine JA_pd (i := 6) rfl (by kernel_rfl) rfl rfl (det_move rfl) ?_
                    refine JA_pd (i := 7) rfl (by kernel_rfl) rfl rfl (det_extract rfl rfl) ?_
                    refine JA_pd (i := 8) rfl (by kernel_rfl) rfl rfl (det_extract rfl rfl) ?_
                    refine JA_pd (i := 9) rfl (by kernel_rfl) rfl rfl (det_extract rfl rfl) ?_
                    refine JA_pd (i := 10) rfl (by kernel_rfl) rfl rfl (det_assign rfl) ?_
                    refine JA_pd (i := 11) rfl (by kernel_rfl) rfl rfl (det_assign rfl) ?_
                    refine JA_pd (i := 12) rfl (by kernel_rfl) rfl rfl (det_assign rfl) ?_
                    refine JA_done (by kernel_rfl) ?_
                    refine JE_seq ?_
                    refine JC_seq ?_
                    refine JC_seq ?_
                    refine JC_region ?_
                    refine JL_pd rfl (det_move rfl) ?_
                    refine JL_pd rfl (det_neq rfl rfl) ?_
                    refine JL_pd rfl (det_move rfl) ?_
                    -- stop: guard 2
                    refine JL_is (d0 := 116) false rfl (by rfl) (fun m1 => ?_)
                    refine JL_guard rfl rfl m1 ?_
                    refine JL_pd rfl (det_move rfl) ?_
                    refine JL_guard rfl rfl m1 ?_
                    refine JL_pd rfl (det_len rfl Tryz.runUnderlying40) ?_
                    refine JL_guard rfl rfl m1 ?_
                    refine JL_pd rfl (det_eql rfl rfl) ?_
                    refine JL_pd rfl (det_pick_f rfl m1 rfl) ?_
                    refine JL_pd rfl (det_move rfl) ?_
                    -- stop: guard 7
                    refine JL_is (d0 := 121) false rfl (by exact decide_eq_false (by omega)) (fun m2 => ?_)
                    refine JL_guard rfl rfl m2 ?_
                    refine JL_pd rfl (det_move rfl) ?_
                    refine JL_guard rfl rfl m2 ?_
                    refine JL_pd rfl (det_move rfl) ?_
                    refine JL_guard rfl rfl m2 ?_
                    refine JL_pd rfl (det_len rfl Tryz.runUnderlying40) ?_
                    refine JL_guard rfl rfl m2 ?_
                    refine JL_pd rfl (det_geq rfl rfl) ?_
                    refine JL_pd rfl (det_pick_f rfl m2 rfl) ?_
                    refine JL_nil ?_
                    refine JE_seq ?_
                    -- stop: cond
                    refine JC_cond rfl (fun m3 => ?_) (fun m3 => ?_)
                    · exact absurd (of_decide_eq_true m3) (by omega)
                    refine JC_skip ?_
                    refine JE_seq ?_
                    refine JC_seq ?_
                    refine JC_draw [14] (by kernel_rfl) ?_
                    refine JA_pd (i := 0) rfl (by kernel_rfl) rfl rfl (det_move rfl) ?_
                    refine JA_pd (i := 1) rfl (by kernel_rfl) rfl rfl (det_move rfl) ?_
                    refine JA_dt (i := 2) rfl (by kernel_rfl) (by kernel_rfl) rfl rfl (det_indexAddr (n := (rowL l s (B + i)).length) (i := 0) rfl rfl rfl hpos Tryz.runUnderlying40 Tryz.sizeOf49) ?_
                    refine JA_pd (i := 3) rfl (by kernel_rfl) rfl rfl (det_fieldAddrE rfl fo_49_0) ?_
                    refine JA_dt (i := 4) rfl (by kernel_rfl) (by kernel_rfl) rfl rfl (det_loadEk rfl (by first | assumption | omega | decide) Tryz.isAgg3 rfl rfl) ?_
                    refine JA_pd (i := 5) rfl (by kernel_rfl) rfl rfl (det_move rfl) ?_
                    refine JA_pd (i := 6) rfl (by kernel_rfl) rfl rfl (det_move rfl) ?_
                    refine JA_pd (i := 7) rfl (by kernel_rfl) rfl rfl (det_len rfl Tryz.runUnderlying40) ?_
                    refine JA_pd (i := 8) rfl (by kernel_rfl) rfl rfl (det_sub rfl rfl ⟨by omega, by omega⟩) ?_
                    refine JA_dt (i := 9) rfl (by kernel_rfl) (by kernel_rfl) rfl rfl (det_indexAddr (n := (rowL l s (B + i)).length) (i := (rowL l s (B + i)).length - 1) rfl rfl (by omega) (by omega) Tryz.runUnderlying40 Tryz.sizeOf49) ?_
                    refine JA_pd (i := 10) rfl (by kernel_rfl) rfl rfl (det_fieldAddrE rfl fo_49_0) ?_
                    refine JA_dt (i := 11) rfl (by kernel_rfl) (by kernel_rfl) rfl rfl (det_loadEk rfl (by first | assumption | omega | decide) Tryz.isAgg3 rfl rfl) ?_
                    refine JA_pd (i := 12) rfl (by kernel_rfl) rfl rfl (det_build rfl (bld_56_0_1 _ _)) ?_
                    refine JA_one (i := 13) (by kernel_rfl) rfl rfl (jo_buildSlice rfl (bsl_52_1_0 _ _)) (fun _ => ⟨hsub_drop 1 rfl, fun _ h => h⟩) fun b140 => ?_
                    refine JA_tail (i := 14) (by kernel_rfl) rfl rfl rfl rfl (jo_append el_52 rfl rfl rfl rfl (by omega)) fun b141 => ?_
                    refine JT_pd (i := 15) rfl (by kernel_rfl) rfl rfl (det_assign rfl) ?_
                    refine JT_done (by kernel_rfl) ?_
                    refine JE_seq ?_
                    refine JC_region ?_
                    refine JL_pd rfl (det_move rfl) ?_
                    refine JL_pd rfl (det_move rfl) ?_
                    refine JL_pd rfl (det_move rfl) ?_
                    refine JL_dt rfl (det_indexAddr (n := over.length) (i := B + i) rfl rfl rfl hov Tryz.runUnderlying40 Tryz.sizeOf49) ?_
                    refine JL_pd rfl (det_fieldAddrE rfl fo_49_0) ?_
                    refine JL_dt rfl (det_loadEk rfl (by first | assumption | omega | decide) Tryz.isAgg3 rfl rfl) ?_
                    refine JL_step rfl rfl rfl (jo_buildSlice rfl (bsl_31_1_0 _)) fun b148 => ?_
                    refine JL_step rfl rfl rfl (jo_append el_31 rfl rfl rfl rfl (by omega)) fun b149 => ?_
                    refine JL_pd rfl (det_assign rfl) ?_
                    refine JL_nil ?_
                    refine JE_block ?_
                    refine JE_seq ?_
                    refine JC_region ?_
                    refine JL_pd rfl (det_move rfl) ?_
                    refine JL_pd rfl (det_add rfl rfl ⟨by omega, by omega⟩) ?_
                    refine JL_pd rfl (det_assign rfl) ?_
                    refine JL_nil ?_
                    -- stop: end
                    refine JE_roundF hK (i + 1, .slice (some ⟨b141.1, 0, none⟩) (i + 1) b141.2, .slice (some ⟨b149.1, 0, none⟩) (i + 1) b149.2) (by simp only; omega) (by simp only; omega) (stsub_consI rfl (by simp only; omega) (stsub_cons rfl (stsub_cons rfl stsub_nil))) (ht_ow rfl (by simp only; rw [blL_snoc, List.flatMap_append, List.flatMap_cons, List.flatMap_nil, List.append_nil, ← rowB_enc hpos (by omega)]) (ht_ow rfl (by simp only; rw [boL_snoc, List.flatMap_append, List.flatMap_cons, List.flatMap_nil, List.append_nil, ← over_enc hov]) ht_nil))
                  · obtain rfl : rn = i := by omega
                    obtain ⟨ball, hball⟩ : ∃ ball, ball = blL l s B rn := ⟨_, rfl⟩
                    obtain ⟨boards, hboards⟩ : ∃ boards, boards = boL over B rn := ⟨_, rfl⟩
                    have hbl : ball.length = rn := by rw [hball, blL_len]
                    have hbo : boards.length = rn := by rw [hboards, boL_len]
                    rw [← hball, ← hboards]
                    refine JC_slice (enc := encRg) (v := v) ball noFp rfl hbl.symm ?_
                    rintro ba bc rfl
                    refine JC_slice (enc := encN) (v := pv) boards noFp rfl hbo.symm ?_
                    rintro boa boc rfl
                    have hIB := IsBall_j r ra rc ba bc ball
                    rw [hbl] at hIB
                    refine JC_exit ?_
                    refine JE_seq_exit ?_
                    refine JE_then_exit ?_
                    refine JE_block_here ?_
                    refine JE_seq ?_
                    refine JC_seq ?_
                    refine JC_seq ?_
                    refine JC_region ?_
                    refine JL_dt rfl (det_loadKA rfl Tryz.isAgg30 Tryz.sizeOf30 rfl rfl) ?_
                    refine JL_pd rfl (det_move rfl) ?_
                    refine JL_step rfl rfl rfl (jo_call rfl rfl Tryz.call17 rfl (hIB)) fun x152 => ?_
                    refine JL_pd rfl (det_not rfl) ?_
                    refine JL_nil ?_
                    refine JE_seq ?_
                    -- stop: cond
                    refine JC_cond rfl (fun n1 => ?_) (fun n1 => ?_)
                    · refine JC_seq ?_
                      refine JC_region ?_
                      refine JL_step rfl rfl rfl (jo_callv rfl rfl Tryz.call11 rfl (struck_j)) fun _ => ?_
                      refine JL_pd rfl (det_assign rfl) ?_
                      refine JL_nil ?_
                      refine JE_seq ?_
                      refine JC_ret ?_
                      refine JE_seq_ret ?_
                      -- stop: out
                      refine JE_out (.inl rfl) () (results1 Tryz.results3 (res_tmp rfl)) rfl (List.Perm.refl _) (fun _ _ => trivial)
                    · have hB : VB r ball := x152.2 (by simpa using n1)
                      have hPk := Picked_j r ra rc (by omega) ba bc ball hB (by omega) oa oc os ho
                      have hBj := Ball_j ba bc ball (by omega)
                      rw [hbl] at hPk hBj
                      refine JC_skip ?_
                      refine JE_seq ?_
                      refine JC_seq ?_
                      refine JC_region ?_
                      refine JL_dt rfl (det_loadKA rfl Tryz.isAgg30 Tryz.sizeOf30 rfl rfl) ?_
                      refine JL_pd rfl (det_move rfl) ?_
                      refine JL_pd rfl (det_move rfl) ?_
                      refine JL_step rfl rfl rfl (jo_call rfl rfl Tryz.call18 rfl (hPk)) fun x159 => ?_
                      refine JL_pd rfl (det_move rfl) ?_
                      refine JL_pd rfl (det_extract rfl rfl) ?_
                      refine JL_pd rfl (det_extract rfl rfl) ?_
                      refine JL_pd rfl (det_assign rfl) ?_
                      refine JL_pd rfl (det_assign rfl) ?_
                      refine JL_nil ?_
                      refine JE_seq ?_
                      refine JC_seq ?_
                      -- stop: region
                      obtain ⟨⟨ka, kc, ns⟩, ca, cc, cs, hcs1, hcs2⟩ := x159
                      dsimp only
                      have hT2 : VT r ball boards cs := by
                        refine ⟨by omega, fun j h1 h2 => ?_, hcs1, fun j h1 h2 hs => ?_⟩
                        · have h3 : B + j < over.length := by omega
                          have h4 := hrch (B + j) over[B + j] (List.getElem?_eq_getElem h3)
                          rw [Nat.zero_add] at h4
                          have h5 := row_ends ((mem_rowL Vl h0).2 h4)
                          have e1 : ball[j] = rowB l s (B + j) := by subst hball; simp [blL]
                          have e2 : boards[j] = over[B + j].b := by
                            subst hboards
                            simp only [boL, List.getElem_map, List.getElem_range]
                            rw [List.getD_eq_getElem?_getD, List.getElem?_eq_getElem h3]; rfl
                          rw [e1, e2]; exact h5
                        · have h3 := hcs2 j r.ls[j] (List.getElem?_eq_getElem h1) hs
                          rw [List.getElem?_eq_getElem h2] at h3
                          exact Option.some.inj h3
                      refine JC_region ?_
                      refine JL_dt rfl (det_loadKA rfl Tryz.isAgg30 Tryz.sizeOf30 rfl rfl) ?_
                      refine JL_step rfl rfl rfl (jo_call rfl rfl Tryz.call20 rfl (Rack_j r ra rc (by omega))) fun x164 => ?_
                      refine JL_pd rfl (det_move rfl) ?_
                      refine JL_step rfl rfl rfl (jo_appendN (e := encN) el_31 rfl encN_one (by omega)) fun b166 => ?_
                      refine JL_pd rfl (det_move rfl) ?_
                      refine JL_step rfl rfl rfl (jo_call rfl rfl Tryz.call21 rfl (hBj)) fun x168 => ?_
                      refine JL_pd rfl (det_move rfl) ?_
                      refine JL_pd rfl (det_move rfl) ?_
                      refine JL_slice (enc := encN) (v := b166) pins noFp rfl rfl ?_
                      rintro p1 q1 rfl
                      have hHit := Hit_n r x164.1 x164.2 V p1 q1 pins hl x168.1 x168.2 ball hB boa boc boards ca cc cs hT2
                      rw [hbl, hbo] at hHit
                      refine JL_step rfl rfl rfl (jo_call rfl rfl Tryz.call19 rfl (hHit)) fun x171 => ?_
                      refine JL_pd rfl (det_move rfl) ?_
                      refine JL_pd rfl (det_extract rfl rfl) ?_
                      refine JL_pd rfl (det_extract rfl rfl) ?_
                      refine JL_pd rfl (det_assign rfl) ?_
                      refine JL_pd rfl (det_assign rfl) ?_
                      refine JL_nil ?_
                      refine JE_seq ?_
                      refine JC_seq ?_
                      refine JC_region ?_
                      refine JL_dt rfl (det_loadKA rfl Tryz.isAgg30 Tryz.sizeOf30 rfl rfl) ?_
                      refine JL_step rfl rfl rfl (jo_call rfl rfl Tryz.call20 rfl (Rack_j r ra rc (by omega))) fun x176 => ?_
                      refine JL_pd rfl (det_move rfl) ?_
                      refine JL_step rfl rfl rfl (jo_appendN (e := encN) el_31 rfl encN_one (by omega)) fun b178 => ?_
                      refine JL_pd rfl (det_move rfl) ?_
                      refine JL_step rfl rfl rfl (jo_call rfl rfl Tryz.call21 rfl (hBj)) fun x180 => ?_
                      refine JL_slice (enc := encN) (v := b178) pins noFp rfl rfl ?_
                      rintro p2 q2 rfl
                      have hFa := Falls_m r x176.1 x176.2 V p2 q2 pins hl x180.1 x180.2 ball hB rn hbl
                      refine JL_step rfl rfl rfl (jo_call rfl rfl Tryz.call22 rfl (hFa)) fun x181 => ?_
                      refine JL_pd rfl (det_move rfl) ?_
                      refine JL_pd rfl (det_extract rfl rfl) ?_
                      refine JL_pd rfl (det_extract rfl rfl) ?_
                      refine JL_pd rfl (det_extract rfl rfl) ?_
                      refine JL_pd rfl (det_assign rfl) ?_
                      refine JL_pd rfl (det_assign rfl) ?_
                      refine JL_pd rfl (det_assign rfl) ?_
                      refine JL_nil ?_
                      refine JE_seq ?_
                      refine JC_seq ?_
                      refine JC_region ?_
                      refine JL_dt rfl (det_loadKA rfl Tryz.isAgg30 Tryz.sizeOf30 rfl rfl) ?_
                      refine JL_step rfl rfl rfl (jo_call rfl rfl Tryz.call20 rfl (Rack_j r ra rc (by omega))) fun x187 => ?_
                      refine JL_pd rfl (det_move rfl) ?_
                      refine JL_step rfl rfl rfl (jo_appendN (e := encN) el_31 rfl encN_one (by omega)) fun b189 => ?_
                      refine JL_pd rfl (det_move rfl) ?_
                      refine JL_step rfl rfl rfl (jo_call rfl rfl Tryz.call21 rfl (hBj)) fun x191 => ?_
                      refine JL_slice (enc := encN) (v := b189) pins noFp rfl rfl ?_
                      rintro p3 q3 rfl
                      have hLf := Left_j r x187.1 x187.2 V p3 q3 pins hl x191.1 x191.2 ball hB
                      rw [hbl] at hLf
                      refine JL_step rfl rfl rfl (jo_call rfl rfl Tryz.call23 rfl (hLf)) fun x192 => ?_
                      refine JL_pd rfl (det_move rfl) ?_
                      refine JL_pd rfl (det_extract rfl rfl) ?_
                      refine JL_pd rfl (det_extract rfl rfl) ?_
                      refine JL_step rfl rfl rfl (jo_alloc0 Tryz.zeroValue71 rfl) fun b30 => ?_
                      refine JL_step0 rfl rfl (jo_store rfl rfl rfl (by first | (simp only [splice_norm]; done) | (simp only [splice_norm]; rfl) | rfl) Tryz.sizeOf71 rfl rfl) fun _ => ?_
                      refine JL_pd rfl (det_assign rfl) ?_
                      refine JL_nil ?_
                      refine JE_seq ?_
                      refine JC_seq ?_
                      refine JC_seq ?_
                      -- stop: region
                      have hR := x171.1.2
                      have hcan := can_of hT2 hB hR
                      have hvl := vp_left hl x171.1.1
                      have hcan2 : Can r (ofL pins) ball (ofL (lsI (ofL pins &&& ~~~ x171.1.1))) := by rw [ofL_left V hl]; exact hcan
                      have hbd := x192.2 _ hcan
                      have hlen := lsI_len (ofL pins &&& ~~~ x171.1.1)
                      have hl10 := lsP_len (ofL pins &&& ~~~ x171.1.1)
                      refine JC_region ?_
                      refine JL_pd rfl (det_move rfl) ?_
                      refine JL_pd rfl (det_neq rfl rfl) ?_
                      refine JL_pd rfl (det_move rfl) ?_
                      -- stop: guard 2
                      refine JL_is (d0 := 197) false rfl (by rfl) (fun w1 => ?_)
                      refine JL_guard rfl rfl w1 ?_
                      refine JL_pd rfl (det_move rfl) ?_
                      refine JL_guard rfl rfl w1 ?_
                      refine JL_pd rfl (det_neq rfl rfl) ?_
                      refine JL_pd rfl (det_pick_f rfl w1 rfl) ?_
                      refine JL_pd rfl (det_move rfl) ?_
                      -- stop: guard 6
                      refine JL_is (d0 := 201) false rfl (by rfl) (fun w2 => ?_)
                      refine JL_guard rfl rfl w2 ?_
                      refine JL_pd rfl (det_move rfl) ?_
                      refine JL_guard rfl rfl w2 ?_
                      refine JL_pd rfl (det_neq rfl rfl) ?_
                      refine JL_pd rfl (det_pick_f rfl w2 rfl) ?_
                      refine JL_pd rfl (det_move rfl) ?_
                      -- stop: guard 10
                      refine JL_is (d0 := 205) false rfl (by rfl) (fun w3 => ?_)
                      refine JL_guard rfl rfl w3 ?_
                      refine JL_pd rfl (det_move rfl) ?_
                      refine JL_guard rfl rfl w3 ?_
                      refine JL_pd rfl (det_len rfl Tryz.runUnderlying31) ?_
                      refine JL_guard rfl rfl w3 ?_
                      refine JL_pd rfl (det_fieldAddr rfl fo_71_0) ?_
                      refine JL_guard rfl rfl w3 ?_
                      refine JL_dt rfl (det_loadK rfl Tryz.isAgg3 rfl) ?_
                      refine JL_guard rfl rfl w3 ?_
                      refine JL_pd rfl (det_lss rfl rfl) ?_
                      refine JL_pd rfl (det_pick_f rfl w3 rfl) ?_
                      refine JL_pd rfl (det_move rfl) ?_
                      -- stop: guard 17
                      refine JL_is (d0 := 212) false rfl (by exact decide_eq_false (by omega)) (fun w4 => ?_)
                      refine JL_guard rfl rfl w4 ?_
                      refine JL_pd rfl (det_move rfl) ?_
                      refine JL_guard rfl rfl w4 ?_
                      refine JL_pd rfl (det_len rfl Tryz.runUnderlying31) ?_
                      refine JL_guard rfl rfl w4 ?_
                      refine JL_pd rfl (det_fieldAddr rfl fo_71_1) ?_
                      refine JL_guard rfl rfl w4 ?_
                      refine JL_dt rfl (det_loadK rfl Tryz.isAgg3 rfl) ?_
                      refine JL_guard rfl rfl w4 ?_
                      refine JL_pd rfl (det_gtr rfl rfl) ?_
                      refine JL_pd rfl (det_pick_f rfl w4 rfl) ?_
                      refine JL_pd rfl (det_move rfl) ?_
                      -- stop: guard 24
                      refine JL_is (d0 := 219) false rfl (by exact decide_eq_false (by omega)) (fun w5 => ?_)
                      refine JL_guard rfl rfl w5 ?_
                      refine JL_dt rfl (det_loadKA rfl Tryz.isAgg30 Tryz.sizeOf30 rfl rfl) ?_
                      refine JL_guard rfl rfl w5 ?_
                      refine JL_step rfl rfl rfl (jo_call rfl rfl Tryz.call20 rfl (Rack_j r ra rc (by omega))) fun x221 => ?_
                      refine JL_guard rfl rfl w5 ?_
                      refine JL_pd rfl (det_move rfl) ?_
                      refine JL_guard rfl rfl w5 ?_
                      refine JL_step rfl rfl rfl (jo_appendN (e := encN) el_31 rfl encN_one (by omega)) fun b223 => ?_
                      refine JL_guard rfl rfl w5 ?_
                      refine JL_pd rfl (det_move rfl) ?_
                      refine JL_guard rfl rfl w5 ?_
                      refine JL_step rfl rfl rfl (jo_call rfl rfl Tryz.call21 rfl (hBj)) fun x225 => ?_
                      refine JL_guard rfl rfl w5 ?_
                      refine JL_pd rfl (det_move rfl) ?_
                      refine JL_guard rfl rfl w5 ?_
                      refine JL_step rfl rfl rfl (jo_appendN (e := encN) el_31 rfl encN_one (by omega)) fun b227 => ?_
                      refine JL_guard rfl rfl w5 ?_
                      refine JL_slice (enc := encN) (v := b223) pins noFp rfl rfl ?_
                      rintro p4 q4 rfl
                      refine JL_slice (enc := encN) (v := b227) (lsI (ofL pins &&& ~~~ x171.1.1)) noFp rfl rfl ?_
                      rintro p5 q5 rfl
                      have hCL := CanLeave_j r x221.1 x221.2 V p4 q4 pins hl x225.1 x225.2 ball hB p5 q5 (lsI (ofL pins &&& ~~~ x171.1.1)) hvl hcan2
                      rw [hbl] at hCL
                      refine JL_step rfl rfl rfl (jo_callv rfl rfl Tryz.call24 rfl (hCL)) fun _ => ?_
                      refine JL_guard rfl rfl w5 ?_
                      refine JL_pd rfl (det_not rfl) ?_
                      refine JL_pd rfl (det_pick_f rfl w5 rfl) ?_
                      refine JL_nil ?_
                      refine JE_seq ?_
                      -- stop: cond
                      -- stop: cond
                      refine JC_cond rfl (fun w6 => ?_) (fun w6 => ?_)
                      · cases w6
                      have hLR := LeftR_j qa qc pins x171.2.1 x171.2.2 (lsI (ofL pins &&& ~~~ x171.1.1)) (by omega)
                      refine JC_skip ?_
                      refine JE_seq ?_
                      refine JC_seq ?_
                      refine JC_region ?_
                      refine JL_pd rfl (det_move rfl) ?_
                      refine JL_pd rfl (det_move rfl) ?_
                      refine JL_step rfl rfl rfl (jo_call rfl rfl Tryz.call25 rfl (hLR)) fun x233 => ?_
                      refine JL_pd rfl (det_assign rfl) ?_
                      refine JL_nil ?_
                      refine JE_seq ?_
                      refine JC_seq ?_
                      refine JC_seq ?_
                      refine JC_region ?_
                      refine JL_pd rfl (det_assign rfl) ?_
                      refine JL_nil ?_
                      refine JE_seq ?_
                      refine JC_block ?_
                      -- stop: loop
                      obtain ⟨fell, hfell⟩ : ∃ fell, fell = leftL pins (lsI (ofL pins &&& ~~~ x171.1.1)) := ⟨_, rfl⟩
                      rw [← hfell]
                      have hfl : fell.length ≤ pins.length := by rw [hfell]; exact List.length_filter_le _ _
                      have hsl : (lsI x181.1.1.1).length ≤ 10 := by rw [lsI_len]; exact lsP_len _
                      have hml : (lsI x181.1.1.2).length ≤ 10 := by rw [lsI_len]; exact lsP_len _
                      have hsu : ∀ y ∈ lsI x181.1.1.1, y ∈ fell := fun y hy => by rw [hfell]; exact sure_in V hl hT2 hB hR x181.1.2.1 hy
                      have hma : ∀ y ∈ fell, y ∈ lsI x181.1.1.2 := fun y hy => by rw [hfell] at hy; exact may_in V hl hT2 hB hR x181.1.2.2 hy
                      refine JC_loopF (γ := Nat) (fun i => i ≤ (lsI x181.1.1.1).length) (fun i => [(33, I i)]) (fun _ => []) (fun i => (lsI x181.1.1.1).length - i) 0 (Nat.zero_le _) (stsub_consI rfl rfl stsub_nil) ht_nil ?_
                      intro i hi K hK
                      dsimp only [List.cons_append, List.nil_append]
                      refine JC_seq ?_
                      refine JC_seq ?_
                      refine JC_region ?_
                      refine JL_pd rfl (det_move rfl) ?_
                      refine JL_pd rfl (det_move rfl) ?_
                      refine JL_pd rfl (det_len rfl Tryz.runUnderlying31) ?_
                      refine JL_pd rfl (det_lss rfl rfl) ?_
                      refine JL_nil ?_
                      refine JE_seq ?_
                      -- stop: cond
                      refine JC_if rfl (fun u1 => ?_) (fun u1 => ?_)
                      · have hi2 : i < (lsI x181.1.1.1).length := by omega
                        have hin := hsu _ (List.getElem_mem hi2)
                        refine JC_skip ?_
                        refine JE_seq ?_
                        refine JC_seq ?_
                        refine JC_block ?_
                        refine JC_seq ?_
                        refine JC_region ?_
                        refine JL_pd rfl (det_move rfl) ?_
                        refine JL_pd rfl (det_move rfl) ?_
                        refine JL_pd rfl (det_move rfl) ?_
                        refine JL_dt rfl (det_indexAddr rfl rfl (by first | rfl | omega) (by first | assumption | omega | decide) Tryz.runUnderlying31 Tryz.sizeOf3) ?_
                        refine JL_dt rfl (det_loadE rfl (by first | assumption | omega | decide) Tryz.isAgg3 rfl rfl) ?_
                        refine JL_step rfl rfl rfl (jo_callv rfl rfl Tryz.call26 rfl (Has_j x233.1 x233.2 fell (lsI x181.1.1.1)[i])) fun _ => ?_
                        refine JL_pd rfl (det_not rfl) ?_
                        refine JL_nil ?_
                        refine JE_seq ?_
                        -- stop: cond
                        refine JC_cond rfl (fun u2 => ?_) (fun u2 => ?_)
                        · rw [decide_eq_true hin] at u2; cases u2
                        refine JC_skip ?_
                        refine JE_block ?_
                        refine JE_seq ?_
                        refine JC_region ?_
                        refine JL_pd rfl (det_move rfl) ?_
                        refine JL_pd rfl (det_add rfl rfl ⟨by omega, by omega⟩) ?_
                        refine JL_pd rfl (det_assign rfl) ?_
                        refine JL_nil ?_
                        -- stop: end
                        refine JE_roundF hK (i + 1) (by omega) (by omega) (stsub_consI rfl (by omega) stsub_nil) ht_nil
                      · refine JC_exit ?_
                        refine JE_seq_exit ?_
                        refine JE_then_exit ?_
                        refine JE_block_here ?_
                        refine JE_seq ?_
                        refine JC_seq ?_
                        refine JC_seq ?_
                        refine JC_region ?_
                        refine JL_pd rfl (det_assign rfl) ?_
                        refine JL_nil ?_
                        refine JE_seq ?_
                        refine JC_block ?_
                        -- stop: loop
                        refine JC_loopF (γ := Nat) (fun i => i ≤ fell.length) (fun i => [(34, I i)]) (fun _ => []) (fun i => fell.length - i) 0 (Nat.zero_le _) (stsub_consI rfl rfl stsub_nil) ht_nil ?_
                        intro i hi K hK
                        dsimp only [List.cons_append, List.nil_append]
                        refine JC_seq ?_
                        refine JC_seq ?_
                        refine JC_region ?_
                        refine JL_pd rfl (det_move rfl) ?_
                        refine JL_pd rfl (det_move rfl) ?_
                        refine JL_pd rfl (det_len rfl Tryz.runUnderlying31) ?_
                        refine JL_pd rfl (det_lss rfl rfl) ?_
                        refine JL_nil ?_
                        refine JE_seq ?_
                        -- stop: cond
                        refine JC_if rfl (fun u3 => ?_) (fun u3 => ?_)
                        · have hi2 : i < fell.length := by omega
                          have hin := hma _ (List.getElem_mem hi2)
                          refine JC_skip ?_
                          refine JE_seq ?_
                          refine JC_seq ?_
                          refine JC_block ?_
                          refine JC_seq ?_
                          refine JC_region ?_
                          refine JL_pd rfl (det_move rfl) ?_
                          refine JL_pd rfl (det_move rfl) ?_
                          refine JL_pd rfl (det_move rfl) ?_
                          refine JL_dt rfl (det_indexAddr rfl rfl (by first | rfl | omega) (by first | assumption | omega | decide) Tryz.runUnderlying31 Tryz.sizeOf3) ?_
                          refine JL_dt rfl (det_loadE rfl (by first | assumption | omega | decide) Tryz.isAgg3 rfl rfl) ?_
                          refine JL_step rfl rfl rfl (jo_callv rfl rfl Tryz.call26 rfl (Has_j x181.2.2.1 x181.2.2.2 (lsI x181.1.1.2) fell[i])) fun _ => ?_
                          refine JL_pd rfl (det_not rfl) ?_
                          refine JL_nil ?_
                          refine JE_seq ?_
                          -- stop: cond
                          refine JC_cond rfl (fun u4 => ?_) (fun u4 => ?_)
                          · rw [decide_eq_true hin] at u4; cases u4
                          refine JC_skip ?_
                          refine JE_block ?_
                          refine JE_seq ?_
                          refine JC_region ?_
                          refine JL_pd rfl (det_move rfl) ?_
                          refine JL_pd rfl (det_add rfl rfl ⟨by omega, by omega⟩) ?_
                          refine JL_pd rfl (det_assign rfl) ?_
                          refine JL_nil ?_
                          -- stop: end
                          refine JE_roundF hK (i + 1) (by omega) (by omega) (stsub_consI rfl (by omega) stsub_nil) ht_nil
                        · refine JC_exit ?_
                          refine JE_seq_exit ?_
                          refine JE_then_exit ?_
                          refine JE_block_here ?_
                          refine JE_seq ?_
                          refine JC_seq ?_
                          refine JC_region ?_
                          refine JL_step rfl rfl rfl (jo_callv rfl rfl Tryz.call11 rfl (struck_j)) fun _ => ?_
                          refine JL_pd rfl (det_assign rfl) ?_
                          refine JL_nil ?_
                          refine JE_seq ?_
                          refine JC_ret ?_
                          -- stop: out
                          refine JE_out (.inl rfl) () (results1 Tryz.results3 (res_tmp rfl)) rfl (List.Perm.refl _) (fun _ _ => trivial)
end Go.Proofs.YthpkgabckklojaaGreat.Rk
