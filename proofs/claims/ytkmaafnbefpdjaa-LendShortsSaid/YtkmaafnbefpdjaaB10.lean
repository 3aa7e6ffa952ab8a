/- Own texts, laid together: E20 E21 E22 E23 E24 E25. Nothing is asked. -/
import Derived.Test.YtkmaafnbefpdjaaB9
set_option linter.unusedSimpArgs false
set_option linter.unusedVariables false
/- The statements about lend: LendLaters. -/
namespace Go.Proofs.Ytkmaafnbefpdjaa
open Go.RowKit Go.Shelf

def hitL (lane at_ : Int) (z : Gr × Int) : Bool := decide (z.2 = lane) && stays z.1 at_
theorem tk_hitL (zs : List (Gr × Int)) {lane at_ : Int} (h : 0 ≤ lane) : tk zs (lane, at_) = zs.any (hitL lane at_) := by
  unfold tk
  congr 1
  funext z
  unfold hitL srv
  by_cases e : z.2 = lane
  · rw [e, decide_eq_true h]; rfl
  · simp [e]
theorem any_snoc {α : Type} (p : α → Bool) {l : List α} {i : Nat} (h : i < l.length) : (l.take (i + 1)).any p = ((l.take i).any p || p l[i]) := by
  rw [take_snoc h, List.any_append]; simp
def laterT (o : Option (Int × Int)) : Value := match o with | some r => .tuple #[I r.1, I r.2, .bool true] | none => .tuple #[I 0, I 0, .bool false]
set_option maxRecDepth 100000 in
set_option maxHeartbeats 1000000 in
theorem RLater_j (x : Hx) (ga : Option Addr) (gc : Nat) (xs : List Gx) (a : Option Addr) (cap : Nat) (plan : List Int) (gi : Nat) (hgi : gi < xs.length) (hn : plan.length = xs.length) (hxl : xs.length ≤ 1000) (k : Nat) (hk : x.h.lanes = k) (hk5 : k ≤ 5) (hV : VGr xs[gi].g) : Cv Try.prog 32 [.agg #[I x.h.lanes, .slice x.a x.h.shoes.length x.c], .slice ga xs.length gc, .slice a plan.length cap, I gi] (KAnd (KSl ga xs.length gc encG xs) (KSl a plan.length cap encI plan)) (laterT (laterV (tk ((gs xs).zip plan)) k xs[gi].g)) := by
  have hgl : (gs xs).length = xs.length := List.length_map _
  generalize hzs : (gs xs).zip plan = zs
  have hzl : zs.length = xs.length := by rw [← hzs, List.length_zip, hgl]; omega
  have hzg : ∀ i (hi : i < xs.length), zs[i]'(by omega) = (xs[i].g, plan[i]'(by omega)) := fun i hi => by
    subst hzs; rw [List.getElem_zip]; simp [gs]
  have v1 := hV.f0
  have v2 := hV.fl
  have v3 := hV.lh
  have v4 := hV.h1
  refine Cx_of Try.func32 rfl Try.ntmps32 rfl fun w0 M0 => ?_
  refine JC_seq ?_
  refine JC_region ?_
  refine JL_step rfl rfl rfl (jo_box rfl rfl) fun b4 => ?_
  refine JL_pd rfl (det_assign rfl) ?_
  refine JL_pd rfl (det_assign rfl) ?_
  refine JL_pd rfl (det_assign rfl) ?_
  refine JL_nil ?_
  refine JE_seq ?_
  refine JC_seq ?_
  refine JC_region ?_
  refine JL_pd rfl (det_move rfl) ?_
  refine JL_pd rfl (det_move rfl) ?_
  refine JL_dt rfl (det_indexAddr rfl rfl (by first | rfl | omega) (by first | assumption | omega | decide) Try.runUnderlying25 Try.sizeOf55) ?_
  refine JL_dt rfl (det_loadEA rfl (by first | assumption | omega | decide) Try.isAgg55 Try.sizeOf55 rfl rfl rfl) ?_
  refine JL_step rfl rfl rfl (jo_alloc0 Try.zeroValue55 rfl) fun b11 => ?_
  refine JL_step0 rfl rfl (jo_store rfl rfl rfl (by first | (simp only [splice_norm]; done) | (simp only [splice_norm]; rfl) | rfl) Try.sizeOf55 rfl rfl) fun _ => ?_
  refine JL_nil ?_
  refine JE_seq ?_
  refine JC_seq ?_
  refine JC_region ?_
  refine JL_pd rfl (det_fieldAddr rfl fo_55_1) ?_
  refine JL_pd rfl (det_fieldAddr rfl fo_53_1) ?_
  refine JL_dt rfl (det_loadK rfl Try.isAgg3 rfl) ?_
  refine JL_pd rfl (det_fieldAddr rfl fo_55_0) ?_
  refine JL_dt rfl (det_loadK rfl Try.isAgg3 rfl) ?_
  refine JL_pd rfl (det_sub rfl rfl ⟨by omega, by omega⟩) ?_
  refine JL_pd rfl (det_assign rfl) ?_
  refine JL_nil ?_
  refine JE_seq ?_
  refine JC_seq ?_
  refine JC_seq ?_
  refine JC_region ?_
  refine JL_pd rfl (det_fieldAddr rfl fo_55_0) ?_
  refine JL_dt rfl (det_loadK rfl Try.isAgg3 rfl) ?_
  refine JL_pd rfl (det_assign rfl) ?_
  refine JL_nil ?_
  refine JE_seq ?_
  refine JC_block ?_
  -- stop: loop
  refine JC_loopF (γ := Nat) (fun A => A ≤ (31 - xs[gi].g.hi).toNat ∧ laterN (tk zs) k xs[gi].g A = none) (fun A => [(13, I (xs[gi].g.fr + A))]) (fun _ => []) (fun A => (31 - xs[gi].g.hi).toNat - A) 0 ⟨Nat.zero_le _, rfl⟩ (stsub_consI rfl (by simp) stsub_nil) ht_nil ?_
  rintro A ⟨hA, hno⟩ K hK
  dsimp only [List.cons_append, List.nil_append]
  refine JC_seq ?_
  refine JC_seq ?_
  refine JC_region ?_
  refine JL_pd rfl (det_move rfl) ?_
  refine JL_pd rfl (det_move rfl) ?_
  refine JL_pd rfl (det_add rfl rfl ⟨by omega, by omega⟩) ?_
  refine JL_pd rfl (det_leq rfl rfl) ?_
  refine JL_nil ?_
  refine JE_seq ?_
  -- stop: cond
  refine JC_if rfl (fun h5 => ?_) (fun h5 => ?_)
  · have hA2 : A < (31 - xs[gi].g.hi).toNat := by omega
    refine JC_skip ?_
    refine JE_seq ?_
    refine JC_seq ?_
    refine JC_block ?_
    refine JC_seq ?_
    refine JC_region ?_
    refine JL_pd rfl (det_assign rfl) ?_
    refine JL_nil ?_
    refine JE_seq ?_
    refine JC_block ?_
    -- stop: loop
    refine JC_loopF (γ := Nat) (fun i => i ≤ k ∧ (List.range i).find? (fun n : Nat => freeW (tk zs) xs[gi].g n A) = none) (fun i => [(14, I i)]) (fun _ => []) (fun i => k - i) 0 ⟨Nat.zero_le _, rfl⟩ (stsub_consI rfl rfl stsub_nil) ht_nil ?_
    rintro i ⟨hi, hni⟩ K1 hK1
    dsimp only [List.cons_append, List.nil_append]
    refine JC_seq ?_
    refine JC_seq ?_
    refine JC_region ?_
    refine JL_pd rfl (det_move rfl) ?_
    refine JL_pd rfl (det_fieldAddr rfl fo_24_0) ?_
    refine JL_dt rfl (det_loadK rfl Try.isAgg3 rfl) ?_
    refine JL_pd rfl (det_lss rfl rfl) ?_
    refine JL_nil ?_
    refine JE_seq ?_
    -- stop: cond
    refine JC_if rfl (fun h6 => ?_) (fun h6 => ?_)
    · have hi2 : i < k := by omega
      have hfs := find_snoc hni
      refine JC_skip ?_
      refine JE_seq ?_
      refine JC_seq ?_
      refine JC_block ?_
      refine JC_seq ?_
      refine JC_region ?_
      refine JL_pd rfl (det_assign rfl) ?_
      refine JL_nil ?_
      refine JE_seq ?_
      refine JC_seq ?_
      refine JC_seq ?_
      refine JC_region ?_
      refine JL_pd rfl (det_move rfl) ?_
      refine JL_pd rfl (det_assign rfl) ?_
      refine JL_nil ?_
      refine JE_seq ?_
      refine JC_block ?_
      -- stop: loop
      refine JC_loopF (γ := Nat) (fun j => j ≤ (xs[gi].g.hi + 1 - xs[gi].g.fr).toNat) (fun j => [(16, I (xs[gi].g.fr + A + j)), (15, .bool (((hoursL xs[gi].g).take j).all fun t => !tk zs ((i : Int), t + A)))]) (fun _ => []) (fun j => (xs[gi].g.hi + 1 - xs[gi].g.fr).toNat - j) 0 (Nat.zero_le _) (stsub_consI rfl (by simp) (stsub_consB rfl rfl stsub_nil)) ht_nil ?_
      intro j hj K2 hK2
      dsimp only [List.cons_append, List.nil_append]
      generalize hb : (((hoursL xs[gi].g).take j).all fun t => !tk zs ((i : Int), t + A)) = b
      refine JC_seq ?_
      refine JC_seq ?_
      refine JC_region ?_
      refine JL_pd rfl (det_move rfl) ?_
      refine JL_pd rfl (det_move rfl) ?_
      refine JL_pd rfl (det_move rfl) ?_
      refine JL_pd rfl (det_add rfl rfl ⟨by omega, by omega⟩) ?_
      refine JL_pd rfl (det_leq rfl rfl) ?_
      refine JL_nil ?_
      refine JE_seq ?_
      -- stop: cond
      refine JC_if rfl (fun h7 => ?_) (fun h7 => ?_)
      · have hj2 : j < (xs[gi].g.hi + 1 - xs[gi].g.fr).toNat := by omega
        have hsn : (((hoursL xs[gi].g).take (j + 1)).all fun t => !tk zs ((i : Int), t + A)) = (b && !zs.any (hitL i (xs[gi].g.fr + A + j))) := by
          rw [hours_get _ j hj2, List.all_append, hb]
          simp only [List.all_cons, List.all_nil, Bool.and_true]
          rw [tk_hitL zs (by omega), show xs[gi].g.fr + (j : Int) + A = xs[gi].g.fr + A + j by omega]
        refine JC_skip ?_
        refine JE_seq ?_
        refine JC_seq ?_
        refine JC_block ?_
        refine JC_seq ?_
        refine JC_region ?_
        refine JL_pd rfl (det_assign rfl) ?_
        refine JL_nil ?_
        refine JE_seq ?_
        refine JC_block ?_
        -- stop: loop
        refine JC_loopF (γ := Nat) (fun m => m ≤ xs.length) (fun m => [(17, I m), (15, .bool (b && !(zs.take m).any (hitL i (xs[gi].g.fr + A + j))))]) (fun _ => []) (fun m => xs.length - m) 0 (Nat.zero_le _) (stsub_consI rfl rfl (stsub_consB rfl (by simp) stsub_nil)) ht_nil ?_
        intro m hm K3 hK3
        dsimp only [List.cons_append, List.nil_append]
        generalize hb2 : (b && !(zs.take m).any (hitL i (xs[gi].g.fr + A + j))) = b2
        refine JC_seq ?_
        refine JC_seq ?_
        refine JC_region ?_
        refine JL_pd rfl (det_move rfl) ?_
        refine JL_pd rfl (det_move rfl) ?_
        refine JL_pd rfl (det_len rfl Try.runUnderlying25) ?_
        refine JL_pd rfl (det_lss rfl rfl) ?_
        refine JL_nil ?_
        refine JE_seq ?_
        -- stop: cond
        refine JC_if rfl (fun h8 => ?_) (fun h8 => ?_)
        · have hm2 : m < xs.length := by omega
          have hm3 : m < plan.length := by omega
          have hsm : (b && !(zs.take (m + 1)).any (hitL i (xs[gi].g.fr + A + j))) = (b2 && !(decide (plan[m] = (i : Int)) && stays xs[m].g (xs[gi].g.fr + A + j))) := by
            rw [any_snoc _ (by omega), hzg m hm2, ← hb2]
            simp [hitL, Bool.and_assoc]
          refine JC_skip ?_
          refine JE_seq ?_
          refine JC_seq ?_
          refine JC_block ?_
          refine JC_region ?_
          refine JL_pd rfl (det_move rfl) ?_
          refine JL_pd rfl (det_move rfl) ?_
          -- stop: guard 1
          refine JL_join1 17 15 (.bool (b2 && !(decide (plan[m] = (i : Int)) && stays xs[m].g (xs[gi].g.fr + A + j)))) (fun hj => ?_) ?_
          · refine JL_split (d0 := 57) rfl (fun q1 => ?_) (fun q1 => ?_)
            · refine JL_guard rfl rfl q1 ?_
              refine JL_pd rfl (det_move rfl) ?_
              refine JL_guard rfl rfl q1 ?_
              refine JL_pd rfl (det_move rfl) ?_
              refine JL_guard rfl rfl q1 ?_
              refine JL_dt rfl (det_indexAddr rfl rfl (by first | rfl | omega) (by first | assumption | omega | decide) Try.runUnderlying22 Try.sizeOf3) ?_
              refine JL_guard rfl rfl q1 ?_
              refine JL_dt rfl (det_loadE rfl (by first | assumption | omega | decide) Try.isAgg3 rfl rfl) ?_
              refine JL_guard rfl rfl q1 ?_
              refine JL_pd rfl (det_move rfl) ?_
              refine JL_guard rfl rfl q1 ?_
              refine JL_pd rfl (det_eql rfl rfl) ?_
              refine JL_guard rfl rfl q1 ?_
              refine JL_pd rfl (det_move rfl) ?_
              refine JL_split (d0 := 64) rfl (fun q2 => ?_) (fun q2 => ?_)
              · refine JL_guard rfl rfl q2 ?_
                refine JL_pd rfl (det_move rfl) ?_
                refine JL_guard rfl rfl q2 ?_
                refine JL_pd rfl (det_move rfl) ?_
                refine JL_guard rfl rfl q2 ?_
                refine JL_dt rfl (det_indexAddr rfl rfl (by first | rfl | omega) (by first | assumption | omega | decide) Try.runUnderlying25 Try.sizeOf55) ?_
                refine JL_guard rfl rfl q2 ?_
                refine JL_dt rfl (det_loadEA rfl (by first | assumption | omega | decide) Try.isAgg55 Try.sizeOf55 rfl rfl rfl) ?_
                refine JL_guard rfl rfl q2 ?_
                refine JL_pd rfl (det_move rfl) ?_
                refine JL_guard rfl rfl q2 ?_
                refine JL_step rfl rfl rfl (jo_callv rfl rfl Try.call68 rfl (Stays_j _ _)) fun _ => ?_
                refine JL_guard rfl rfl q1 ?_
                refine JL_pd rfl (det_pick_t rfl q2 rfl) ?_
                refine JL_guard rfl rfl q1 ?_
                refine JL_pd rfl (det_not rfl) ?_
                refine JL_pd rfl (det_pick_t rfl q1 rfl) ?_
                refine JL_pd rfl (det_assign rfl) ?_
                exact hj (by kernel_rfl) (stsub_consB rfl (by clear hj; first | rfl | (simp only [q1, q2, Bool.and_true, Bool.true_and, Bool.false_and, Bool.and_false, Bool.or_true, Bool.true_or, Bool.or_false, Bool.false_or, Bool.not_true, Bool.not_false]; done) | (simp [q1, q2]; done) | (simp at q1; done) | (simp at q2; done) | (simp [q1, q2] <;> omega) | (exfalso; simp at q1 q2; omega) | (simp [q2] at q1; done) | (simp [q1] at q2; done)) stsub_nil)
              · refine JL_skip rfl rfl q2 rfl ?_
                refine JL_skip rfl rfl q2 rfl ?_
                refine JL_skip rfl rfl q2 rfl ?_
                refine JL_skip rfl rfl q2 rfl ?_
                refine JL_skip rfl rfl q2 rfl ?_
                refine JL_skip rfl rfl q2 rfl ?_
                refine JL_guard rfl rfl q1 ?_
                refine JL_pd rfl (det_pick_f rfl q2 rfl) ?_
                refine JL_guard rfl rfl q1 ?_
                refine JL_pd rfl (det_not rfl) ?_
                refine JL_pd rfl (det_pick_t rfl q1 rfl) ?_
                refine JL_pd rfl (det_assign rfl) ?_
                exact hj (by kernel_rfl) (stsub_consB rfl (by clear hj; first | rfl | (simp only [q1, q2, Bool.and_true, Bool.true_and, Bool.false_and, Bool.and_false, Bool.or_true, Bool.true_or, Bool.or_false, Bool.false_or, Bool.not_true, Bool.not_false]; done) | (simp [q1, q2]; done) | (simp at q1; done) | (simp at q2; done) | (simp [q1, q2] <;> omega) | (exfalso; simp at q1 q2; omega) | (simp [q2] at q1; done) | (simp [q1] at q2; done)) stsub_nil)
            · refine JL_skip rfl rfl q1 rfl ?_
              refine JL_skip rfl rfl q1 rfl ?_
              refine JL_skip rfl rfl q1 rfl ?_
              refine JL_skip rfl rfl q1 rfl ?_
              refine JL_skip rfl rfl q1 rfl ?_
              refine JL_skip rfl rfl q1 rfl ?_
              refine JL_skip rfl rfl q1 rfl ?_
              refine JL_skipU rfl rfl rfl ?_
              refine JL_skipU rfl rfl rfl ?_
              refine JL_skipU rfl rfl rfl ?_
              refine JL_skipU rfl rfl rfl ?_
              refine JL_skipU rfl rfl rfl ?_
              refine JL_skipU rfl rfl rfl ?_
              refine JL_skip rfl rfl q1 rfl ?_
              refine JL_skip rfl rfl q1 rfl ?_
              refine JL_pd rfl (det_pick_f rfl q1 rfl) ?_
              refine JL_pd rfl (det_assign rfl) ?_
              exact hj (by kernel_rfl) (stsub_consB rfl (by clear hj; first | rfl | (simp only [q1, Bool.and_true, Bool.true_and, Bool.false_and, Bool.and_false, Bool.or_true, Bool.true_or, Bool.or_false, Bool.false_or, Bool.not_true, Bool.not_false]; done) | (simp [q1]; done) | (simp at q1; done) | (simp [q1] <;> omega) | (exfalso; simp at q1; omega)) stsub_nil)
          refine JL_nil ?_
          refine JE_block ?_
          refine JE_seq ?_
          refine JC_region ?_
          refine JL_pd rfl (det_move rfl) ?_
          refine JL_pd rfl (det_add rfl rfl ⟨by omega, by omega⟩) ?_
          refine JL_pd rfl (det_assign rfl) ?_
          refine JL_nil ?_
          -- stop: end
          refine JE_roundF hK3 (m + 1) (by omega) (by omega) (stsub_consI rfl (by omega) (stsub_consB rfl hsm.symm stsub_nil)) ht_nil
        · obtain rfl : m = xs.length := by omega
          rw [List.take_of_length_le (by omega)] at hb2
          refine JC_exit ?_
          refine JE_seq_exit ?_
          refine JE_then_exit ?_
          refine JE_block_here ?_
          refine JE_block ?_
          refine JE_seq ?_
          refine JC_region ?_
          refine JL_pd rfl (det_move rfl) ?_
          refine JL_pd rfl (det_add rfl rfl ⟨by omega, by omega⟩) ?_
          refine JL_pd rfl (det_assign rfl) ?_
          refine JL_nil ?_
          -- stop: end
          refine JE_roundF hK2 (j + 1) (by omega) (by omega) (stsub_consI rfl (by omega) (stsub_consB rfl (by rw [hsn, hb2]) stsub_nil)) ht_nil
      · have hfw : freeW (tk zs) xs[gi].g (i : Int) A = b := by
          rw [hours_all _ (by omega)] at hb; exact hb
        rw [hfw] at hfs
        refine JC_exit ?_
        refine JE_seq_exit ?_
        refine JE_then_exit ?_
        refine JE_block_here ?_
        refine JE_seq ?_
        refine JC_seq ?_
        refine JC_region ?_
        refine JL_pd rfl (det_move rfl) ?_
        refine JL_nil ?_
        refine JE_seq ?_
        -- stop: cond
        refine JC_cond rfl (fun h9 => ?_) (fun h9 => ?_)
        · rw [if_pos h9] at hfs
          have hlv : laneV (tk zs) k xs[gi].g A = some i := find_mono hfs (by omega)
          have hres : laterV (tk zs) k xs[gi].g = some ((i : Int), xs[gi].g.fr + A) := by
            unfold laterV
            refine laterN_mono (N := A + 1) ?_ (by omega)
            rw [laterN_snoc hno, hlv]; rfl
          refine JC_seq ?_
          refine JC_region ?_
          refine JL_pd rfl (det_move rfl) ?_
          refine JL_pd rfl (det_move rfl) ?_
          refine JL_pd rfl (det_assign rfl) ?_
          refine JL_pd rfl (det_assign rfl) ?_
          refine JL_pd rfl (det_assign rfl) ?_
          refine JL_nil ?_
          refine JE_seq ?_
          refine JC_ret ?_
          refine JE_block_ret ?_
          refine JE_seq_ret ?_
          refine JE_then_ret ?_
          refine JE_block_ret ?_
          refine JE_block_ret ?_
          refine JE_seq_ret ?_
          refine JE_then_ret ?_
          refine JE_block_ret ?_
          refine JE_seq_ret ?_
          -- stop: out
          refine JE_out (.inl rfl) () (results3 Try.results32 (res_tmp rfl) (res_tmp rfl) (res_tmp rfl)) (by rw [hres]; rfl) (List.Perm.refl _) (fun _ _ => trivial)
        · rw [if_neg (by rw [h9]; decide)] at hfs
          refine JC_skip ?_
          refine JE_block ?_
          refine JE_seq ?_
          refine JC_region ?_
          refine JL_pd rfl (det_move rfl) ?_
          refine JL_pd rfl (det_add rfl rfl ⟨by omega, by omega⟩) ?_
          refine JL_pd rfl (det_assign rfl) ?_
          refine JL_nil ?_
          -- stop: end
          refine JE_roundF hK1 (i + 1) ⟨by omega, hfs⟩ (by omega) (stsub_consI rfl (by omega) stsub_nil) ht_nil
    · obtain rfl : i = k := by omega
      refine JC_exit ?_
      refine JE_seq_exit ?_
      refine JE_then_exit ?_
      refine JE_block_here ?_
      refine JE_block ?_
      refine JE_seq ?_
      refine JC_region ?_
      refine JL_pd rfl (det_move rfl) ?_
      refine JL_pd rfl (det_add rfl rfl ⟨by omega, by omega⟩) ?_
      refine JL_pd rfl (det_assign rfl) ?_
      refine JL_nil ?_
      -- stop: end
      refine JE_roundF hK (A + 1) ⟨by omega, by rw [laterN_snoc hno, show laneV (tk zs) i xs[gi].g A = none from hni]; rfl⟩ (by omega) (stsub_consI rfl (by omega) stsub_nil) ht_nil
  · obtain rfl : A = (31 - xs[gi].g.hi).toNat := by omega
    have hres : laterV (tk zs) k xs[gi].g = none := hno
    refine JC_exit ?_
    refine JE_seq_exit ?_
    refine JE_then_exit ?_
    refine JE_block_here ?_
    refine JE_seq ?_
    refine JC_seq ?_
    refine JC_region ?_
    refine JL_pd rfl (det_assign rfl) ?_
    refine JL_pd rfl (det_assign rfl) ?_
    refine JL_pd rfl (det_assign rfl) ?_
    refine JL_nil ?_
    refine JE_seq ?_
    refine JC_ret ?_
    -- stop: out
    refine JE_out (.inl rfl) () (results3 Try.results32 (res_tmp rfl) (res_tmp rfl) (res_tmp rfl)) (by rw [hres]; rfl) (List.Perm.refl _) (fun _ _ => trivial)
set_option maxRecDepth 100000 in
set_option maxHeartbeats 1000000 in
theorem LendLaters_j (x : Hx) (ga : Option Addr) (gc : Nat) (xs : List Gx) (a : Option Addr) (cap : Nat) (plan : List Int) (group : Int) (hgr : -9223372036854775808 ≤ group ∧ group ≤ 9223372036854775807) : Cv Try.prog 4 [.agg #[I x.h.lanes, .slice x.a x.h.shoes.length x.c], .slice ga xs.length gc, .slice a plan.length cap, I group] (KAnd (KHx x) (KAnd (KGs ga gc xs) (KSl a plan.length cap encI plan))) (.bool true) := by
  refine Cx_of Try.func4 rfl Try.ntmps4 rfl fun w0 M0 => ?_
  refine JC_seq ?_
  refine JC_region ?_
  refine JL_step rfl rfl rfl (jo_box rfl rfl) fun b4 => ?_
  refine JL_pd rfl (det_assign rfl) ?_
  refine JL_nil ?_
  refine JE_seq ?_
  refine JC_seq ?_
  refine JC_seq ?_
  refine JC_region ?_
  refine JL_dt rfl (det_loadKA rfl Try.isAgg24 Try.sizeOf24 rfl rfl) ?_
  refine JL_pd rfl (det_move rfl) ?_
  refine JL_step rfl rfl rfl (jo_callv rfl rfl Try.call16 rfl (Thin_j x ga gc xs)) fun _ => ?_
  refine JL_pd rfl (det_not rfl) ?_
  refine JL_pd rfl (det_move rfl) ?_
  -- stop: guard 4
  refine JL_join1 4 24 (.bool (!thinB x.h (gs xs) || decide ((12 : Int) < (plan.length : Int)))) (fun hj => ?_) ?_
  · refine JL_split (d0 := 20) rfl (fun q3 => ?_) (fun q3 => ?_)
    · refine JL_skip rfl rfl q3 rfl ?_
      refine JL_skip rfl rfl q3 rfl ?_
      refine JL_skip rfl rfl q3 rfl ?_
      refine JL_pd rfl (det_pick_t rfl q3 rfl) ?_
      exact hj (by kernel_rfl) (stsub_consB rfl (by clear hj; first | rfl | (simp only [q3, Bool.and_true, Bool.true_and, Bool.false_and, Bool.and_false, Bool.or_true, Bool.true_or, Bool.or_false, Bool.false_or, Bool.not_true, Bool.not_false]; done) | (simp [q3]; done) | (simp at q3; done) | (simp [q3] <;> omega) | (exfalso; simp at q3; omega)) stsub_nil)
    · refine JL_guard rfl rfl q3 ?_
      refine JL_pd rfl (det_move rfl) ?_
      refine JL_guard rfl rfl q3 ?_
      refine JL_pd rfl (det_len rfl Try.runUnderlying22) ?_
      refine JL_guard rfl rfl q3 ?_
      refine JL_pd rfl (det_gtr rfl rfl) ?_
      refine JL_pd rfl (det_pick_f rfl q3 rfl) ?_
      exact hj (by kernel_rfl) (stsub_consB rfl (by clear hj; first | rfl | (simp only [q3, Bool.and_true, Bool.true_and, Bool.false_and, Bool.and_false, Bool.or_true, Bool.true_or, Bool.or_false, Bool.false_or, Bool.not_true, Bool.not_false]; done) | (simp [q3]; done) | (simp at q3; done) | (simp [q3] <;> omega) | (exfalso; simp at q3; omega)) stsub_nil)
  refine JL_nil ?_
  refine JE_seq ?_
  -- stop: cond
  refine JC_cond rfl (fun h1 => ?_) (fun h1 => ?_)
  · refine JC_seq ?_
    refine JC_region ?_
    refine JL_step rfl rfl rfl (jo_callv rfl rfl Try.call17 rfl (awake_j)) fun _ => ?_
    refine JL_pd rfl (det_assign rfl) ?_
    refine JL_nil ?_
    refine JE_seq ?_
    refine JC_ret ?_
    refine JE_seq_ret ?_
    -- stop: out
    refine JE_out (.inl rfl) () (results1 Try.results4 (res_tmp rfl)) rfl (List.Perm.refl _) (fun _ _ => trivial)
  · simp only [Bool.or_eq_false_iff, Bool.not_eq_false', decide_eq_false_iff_not] at h1
    obtain ⟨h1, h2⟩ := h1
    obtain ⟨t1, t2, t3⟩ := thin_lens h1
    have hgl : (gs xs).length = xs.length := List.length_map _
    rw [hgl] at t2
    have hpl : plan.length ≤ 12 := by omega
    have hft : ∀ y ∈ xs, y.g.feet.length ≤ 1000 := fun y hy => by have := t3 y.g (List.mem_map.2 ⟨y, hy, rfl⟩); omega
    have hpd := planned_jl x ga gc xs a cap plan
    have hlat := fun (q : QH) (g : QG xs) (c : QH) => Later_c x q xs g plan c.1 c.2 group
    by_cases c1 : fault x.h (gs xs) = 0
    · by_cases c2 : inI group 0 ((xs.length : Int) - 1) = true
      · obtain ⟨gi, rfl⟩ : ∃ gi : Nat, group = gi := ⟨group.toNat, by have := inI_iff.1 c2; omega⟩
        have hgi : gi < xs.length := by have := inI_iff.1 c2; omega
        have V := vld_of c1
        by_cases c3 : isPlan x.h.lanes (gs xs) plan = true
        · have c3' := c3
          rw [isPlan_eq, Bool.and_eq_true, decide_eq_true_eq] at c3'
          have hgp : gi < plan.length := by omega
          have hin := inI_iff.1 (List.all_eq_true.1 c3'.1 _ (List.getElem_mem hgp))
          have hgs : (gs xs)[((gi : Int)).toNat]! = xs[gi].g := gs_get xs gi hgi
          have hE : laterE x (gs xs) plan gi = if rightB (gs xs) plan = false ∨ plan[gi] ≠ -1 then (0, 0, 8) else later3 (laterV (tk ((gs xs).zip plan)) x.h.lanes.toNat xs[gi].g) := by
            unfold laterE
            rw [if_neg (by omega), if_neg (by rw [hgl, c3, c2]; simp), hgs, Int.toNat_natCast, List.getD_eq_getElem?_getD, List.getElem?_eq_getElem hgp]; rfl
          by_cases c4 : rightB (gs xs) plan = true
          · have hpe : plannedE x.h (gs xs) plan = 0 := by unfold plannedE; rw [if_neg (by omega), if_neg (by rw [c3]; decide), if_neg (by rw [c4]; decide)]
            rw [hpe] at hpd
            by_cases c5 : 0 ≤ plan[gi]
            · rw [if_pos (.inr (by omega))] at hE
              simp only [hE] at hlat
              refine JC_skip ?_
              refine JE_seq ?_
              refine JC_seq ?_
              refine JC_region ?_
              refine JL_dt rfl (det_loadKA rfl Try.isAgg24 Try.sizeOf24 rfl rfl) ?_
              refine JL_step rfl rfl rfl (jo_call rfl rfl Try.call19 rfl (lHouse_j x (by omega))) fun x28 => ?_
              refine JL_pd rfl (det_move rfl) ?_
              refine JL_step rfl rfl rfl (jo_call rfl rfl Try.call20 rfl (lGroups_j ga gc xs (by omega) hft)) fun x30 => ?_
              refine JL_pd rfl (det_move rfl) ?_
              refine JL_step rfl rfl rfl (jo_call rfl rfl Try.call23 rfl (lList_j plan a cap (by omega))) fun x32 => ?_
              refine JL_pd rfl (det_move rfl) ?_
              refine JL_step rfl rfl rfl (jo_callv rfl rfl Try.call30 rfl (hlat x28 x30 x32)) fun _ => ?_
              refine JL_pd rfl (det_move rfl) ?_
              refine JL_pd rfl (det_extract rfl rfl) ?_
              refine JL_pd rfl (det_extract rfl rfl) ?_
              refine JL_pd rfl (det_extract rfl rfl) ?_
              refine JL_pd rfl (det_assign rfl) ?_
              refine JL_pd rfl (det_assign rfl) ?_
              refine JL_pd rfl (det_assign rfl) ?_
              refine JL_nil ?_
              refine JE_seq ?_
              refine JC_seq ?_
              refine JC_region ?_
              refine JL_dt rfl (det_loadKA rfl Try.isAgg24 Try.sizeOf24 rfl rfl) ?_
              refine JL_pd rfl (det_move rfl) ?_
              refine JL_pd rfl (det_move rfl) ?_
              refine JL_step rfl rfl rfl (jo_callv rfl rfl Try.call25 rfl (hpd)) fun _ => ?_
              refine JL_pd rfl (det_assign rfl) ?_
              refine JL_nil ?_
              refine JE_seq ?_
              refine JC_seq ?_
              refine JC_seq ?_
              refine JC_region ?_
              refine JL_dt rfl (det_loadKA rfl Try.isAgg24 Try.sizeOf24 rfl rfl) ?_
              refine JL_pd rfl (det_move rfl) ?_
              refine JL_step rfl rfl rfl (jo_callv rfl rfl Try.call24 rfl (fault_jl x ga gc xs)) fun _ => ?_
              refine JL_pd rfl (det_eql rfl rfl) ?_
              refine JL_pd rfl (det_move rfl) ?_
              -- stop: guard 4
              refine JL_is (d0 := 46) true rfl (by exact decide_eq_true c1) (fun g1 => ?_)
              refine JL_guard rfl rfl g1 ?_
              refine JL_pd rfl (det_move rfl) ?_
              refine JL_guard rfl rfl g1 ?_
              refine JL_pd rfl (det_move rfl) ?_
              refine JL_guard rfl rfl g1 ?_
              refine JL_pd rfl (det_len rfl Try.runUnderlying25) ?_
              refine JL_guard rfl rfl g1 ?_
              refine JL_pd rfl (det_sub rfl rfl ⟨by omega, by omega⟩) ?_
              refine JL_guard rfl rfl g1 ?_
              refine JL_step rfl rfl rfl (jo_callv rfl rfl Try.call31 rfl (In_j _ _ _)) fun _ => ?_
              refine JL_guard rfl rfl g1 ?_
              refine JL_pd rfl (det_not rfl) ?_
              refine JL_pd rfl (det_pick_t rfl g1 rfl) ?_
              refine JL_nil ?_
              refine JE_seq ?_
              -- stop: cond
              refine JC_cond rfl (fun k1 => ?_) (fun k1 => ?_)
              · exact absurd k1 (by rw [c2]; decide)
              refine JC_skip ?_
              refine JE_seq ?_
              refine JC_seq ?_
              refine JC_seq ?_
              refine JC_region ?_
              refine JL_pd rfl (det_move rfl) ?_
              refine JL_pd rfl (det_eql rfl rfl) ?_
              refine JL_pd rfl (det_move rfl) ?_
              -- stop: guard 2
              refine JL_is (d0 := 56) true rfl (by rfl) (fun g2 => ?_)
              refine JL_guard rfl rfl g2 ?_
              refine JL_pd rfl (det_move rfl) ?_
              refine JL_guard rfl rfl g2 ?_
              refine JL_pd rfl (det_move rfl) ?_
              refine JL_guard rfl rfl g2 ?_
              refine JL_dt rfl (det_indexAddr rfl rfl (by first | rfl | omega) (by first | assumption | omega | decide) Try.runUnderlying22 Try.sizeOf3) ?_
              refine JL_guard rfl rfl g2 ?_
              refine JL_dt rfl (det_loadE rfl (by first | assumption | omega | decide) Try.isAgg3 rfl rfl) ?_
              refine JL_guard rfl rfl g2 ?_
              refine JL_pd rfl (det_geq rfl rfl) ?_
              refine JL_pd rfl (det_pick_t rfl g2 rfl) ?_
              refine JL_nil ?_
              refine JE_seq ?_
              -- stop: cond
              refine JC_if rfl (fun k2 => ?_) (fun k2 => ?_)
              · refine JC_region ?_
                refine JL_pd rfl (det_assign rfl) ?_
                refine JL_nil ?_
                refine JE_seq ?_
                refine JC_seq ?_
                refine JC_region ?_
                refine JL_pd rfl (det_assign rfl) ?_
                refine JL_pd rfl (det_assign rfl) ?_
                refine JL_nil ?_
                refine JE_seq ?_
                refine JC_seq ?_
                refine JC_seq ?_
                refine JC_region ?_
                refine JL_pd rfl (det_move rfl) ?_
                refine JL_pd rfl (det_eql rfl rfl) ?_
                refine JL_nil ?_
                refine JE_seq ?_
                -- stop: cond
                refine JC_if rfl (fun k3 => ?_) (fun k3 => ?_)
                · exact absurd k3 (by decide)
                refine JC_skip ?_
                refine JE_seq ?_
                refine JC_seq ?_
                refine JC_region ?_
                refine JL_pd rfl (det_move rfl) ?_
                refine JL_pd rfl (det_move rfl) ?_
                refine JL_pd rfl (det_eql rfl rfl) ?_
                refine JL_pd rfl (det_move rfl) ?_
                -- stop: guard 3
                refine JL_is (d0 := 79) true rfl (by simp) (fun h4 => ?_)
                refine JL_guard rfl rfl h4 ?_
                refine JL_pd rfl (det_move rfl) ?_
                refine JL_guard rfl rfl h4 ?_
                refine JL_pd rfl (det_move rfl) ?_
                refine JL_guard rfl rfl h4 ?_
                refine JL_pd rfl (det_eql rfl rfl) ?_
                refine JL_pd rfl (det_pick_t rfl h4 rfl) ?_
                refine JL_pd rfl (det_move rfl) ?_
                refine JL_is (d0 := 84) true rfl (by simp) (fun h5 => ?_)
                refine JL_guard rfl rfl h5 ?_
                refine JL_pd rfl (det_move rfl) ?_
                refine JL_guard rfl rfl h5 ?_
                refine JL_pd rfl (det_move rfl) ?_
                refine JL_guard rfl rfl h5 ?_
                refine JL_pd rfl (det_eql rfl rfl) ?_
                refine JL_pd rfl (det_pick_t rfl h5 rfl) ?_
                refine JL_pd rfl (det_move rfl) ?_
                refine JL_is (d0 := 89) true rfl (by simp) (fun h6 => ?_)
                refine JL_guard rfl rfl h6 ?_
                refine JL_step rfl rfl rfl (jo_callv rfl rfl Try.call17 rfl (awake_j)) fun _ => ?_
                refine JL_pd rfl (det_pick_t rfl h6 rfl) ?_
                refine JL_pd rfl (det_assign rfl) ?_
                refine JL_nil ?_
                refine JE_seq ?_
                refine JC_ret ?_
                refine JE_out (.inl rfl) () (results1 Try.results4 (res_tmp rfl)) ?_ (List.Perm.refl _) (fun _ _ => trivial)
                rfl
              · exact absurd c5 k2
            · rw [if_neg (by rw [c4]; simp; omega)] at hE
              obtain ⟨k, hk⟩ : ∃ k : Nat, x.h.lanes.toNat = k := ⟨_, rfl⟩
              have hkk : x.h.lanes = (k : Int) := by have := V.hs.l0; omega
              have hrl := RLater_j x ga gc xs a cap plan gi hgi (by omega) (by omega) k hkk (by have := V.hs.l1; omega) (V.gr _ (List.mem_map.2 ⟨_, List.getElem_mem hgi, rfl⟩))
              rw [hk] at hE
              cases hv : laterV (tk ((gs xs).zip plan)) k xs[gi].g with
              | some r =>
                rw [hv] at hrl hE
                simp only [hE, later3, laterT] at hlat hrl
                refine JC_skip ?_
                refine JE_seq ?_
                refine JC_seq ?_
                refine JC_region ?_
                refine JL_dt rfl (det_loadKA rfl Try.isAgg24 Try.sizeOf24 rfl rfl) ?_
                refine JL_step rfl rfl rfl (jo_call rfl rfl Try.call19 rfl (lHouse_j x (by omega))) fun x28 => ?_
                refine JL_pd rfl (det_move rfl) ?_
                refine JL_step rfl rfl rfl (jo_call rfl rfl Try.call20 rfl (lGroups_j ga gc xs (by omega) hft)) fun x30 => ?_
                refine JL_pd rfl (det_move rfl) ?_
                refine JL_step rfl rfl rfl (jo_call rfl rfl Try.call23 rfl (lList_j plan a cap (by omega))) fun x32 => ?_
                refine JL_pd rfl (det_move rfl) ?_
                refine JL_step rfl rfl rfl (jo_callv rfl rfl Try.call30 rfl (hlat x28 x30 x32)) fun _ => ?_
                refine JL_pd rfl (det_move rfl) ?_
                refine JL_pd rfl (det_extract rfl rfl) ?_
                refine JL_pd rfl (det_extract rfl rfl) ?_
                refine JL_pd rfl (det_extract rfl rfl) ?_
                refine JL_pd rfl (det_assign rfl) ?_
                refine JL_pd rfl (det_assign rfl) ?_
                refine JL_pd rfl (det_assign rfl) ?_
                refine JL_nil ?_
                refine JE_seq ?_
                refine JC_seq ?_
                refine JC_region ?_
                refine JL_dt rfl (det_loadKA rfl Try.isAgg24 Try.sizeOf24 rfl rfl) ?_
                refine JL_pd rfl (det_move rfl) ?_
                refine JL_pd rfl (det_move rfl) ?_
                refine JL_step rfl rfl rfl (jo_callv rfl rfl Try.call25 rfl (hpd)) fun _ => ?_
                refine JL_pd rfl (det_assign rfl) ?_
                refine JL_nil ?_
                refine JE_seq ?_
                refine JC_seq ?_
                refine JC_seq ?_
                refine JC_region ?_
                refine JL_dt rfl (det_loadKA rfl Try.isAgg24 Try.sizeOf24 rfl rfl) ?_
                refine JL_pd rfl (det_move rfl) ?_
                refine JL_step rfl rfl rfl (jo_callv rfl rfl Try.call24 rfl (fault_jl x ga gc xs)) fun _ => ?_
                refine JL_pd rfl (det_eql rfl rfl) ?_
                refine JL_pd rfl (det_move rfl) ?_
                -- stop: guard 4
                refine JL_is (d0 := 46) true rfl (by exact decide_eq_true c1) (fun g1 => ?_)
                refine JL_guard rfl rfl g1 ?_
                refine JL_pd rfl (det_move rfl) ?_
                refine JL_guard rfl rfl g1 ?_
                refine JL_pd rfl (det_move rfl) ?_
                refine JL_guard rfl rfl g1 ?_
                refine JL_pd rfl (det_len rfl Try.runUnderlying25) ?_
                refine JL_guard rfl rfl g1 ?_
                refine JL_pd rfl (det_sub rfl rfl ⟨by omega, by omega⟩) ?_
                refine JL_guard rfl rfl g1 ?_
                refine JL_step rfl rfl rfl (jo_callv rfl rfl Try.call31 rfl (In_j _ _ _)) fun _ => ?_
                refine JL_guard rfl rfl g1 ?_
                refine JL_pd rfl (det_not rfl) ?_
                refine JL_pd rfl (det_pick_t rfl g1 rfl) ?_
                refine JL_nil ?_
                refine JE_seq ?_
                -- stop: cond
                refine JC_cond rfl (fun k1 => ?_) (fun k1 => ?_)
                · exact absurd k1 (by rw [c2]; decide)
                refine JC_skip ?_
                refine JE_seq ?_
                refine JC_seq ?_
                refine JC_seq ?_
                refine JC_region ?_
                refine JL_pd rfl (det_move rfl) ?_
                refine JL_pd rfl (det_eql rfl rfl) ?_
                refine JL_pd rfl (det_move rfl) ?_
                -- stop: guard 2
                refine JL_is (d0 := 56) true rfl (by rfl) (fun g2 => ?_)
                refine JL_guard rfl rfl g2 ?_
                refine JL_pd rfl (det_move rfl) ?_
                refine JL_guard rfl rfl g2 ?_
                refine JL_pd rfl (det_move rfl) ?_
                refine JL_guard rfl rfl g2 ?_
                refine JL_dt rfl (det_indexAddr rfl rfl (by first | rfl | omega) (by first | assumption | omega | decide) Try.runUnderlying22 Try.sizeOf3) ?_
                refine JL_guard rfl rfl g2 ?_
                refine JL_dt rfl (det_loadE rfl (by first | assumption | omega | decide) Try.isAgg3 rfl rfl) ?_
                refine JL_guard rfl rfl g2 ?_
                refine JL_pd rfl (det_geq rfl rfl) ?_
                refine JL_pd rfl (det_pick_t rfl g2 rfl) ?_
                refine JL_nil ?_
                refine JE_seq ?_
                -- stop: cond
                refine JC_if rfl (fun k2 => ?_) (fun k2 => ?_)
                · exact absurd k2 c5
                refine JC_skip ?_
                refine JE_seq ?_
                refine JC_seq ?_
                refine JC_region ?_
                refine JL_pd rfl (det_assign rfl) ?_
                refine JL_pd rfl (det_assign rfl) ?_
                refine JL_nil ?_
                refine JE_seq ?_
                refine JC_seq ?_
                refine JC_seq ?_
                refine JC_region ?_
                refine JL_pd rfl (det_move rfl) ?_
                refine JL_pd rfl (det_eql rfl rfl) ?_
                refine JL_nil ?_
                refine JE_seq ?_
                -- stop: cond
                refine JC_if rfl (fun k3 => ?_) (fun k3 => ?_)
                · refine JC_seq ?_
                  refine JC_region ?_
                  refine JL_pd rfl (det_assign rfl) ?_
                  refine JL_nil ?_
                  refine JE_seq ?_
                  refine JC_seq ?_
                  refine JC_region ?_
                  refine JL_dt rfl (det_loadKA rfl Try.isAgg24 Try.sizeOf24 rfl rfl) ?_
                  refine JL_pd rfl (det_move rfl) ?_
                  refine JL_pd rfl (det_move rfl) ?_
                  refine JL_pd rfl (det_move rfl) ?_
                  refine JL_step rfl rfl rfl (jo_callv rfl rfl Try.call32 rfl (hrl)) fun _ => ?_
                  refine JL_pd rfl (det_move rfl) ?_
                  refine JL_pd rfl (det_extract rfl rfl) ?_
                  refine JL_pd rfl (det_extract rfl rfl) ?_
                  refine JL_pd rfl (det_extract rfl rfl) ?_
                  refine JL_pd rfl (det_assign rfl) ?_
                  refine JL_pd rfl (det_assign rfl) ?_
                  refine JL_pd rfl (det_assign rfl) ?_
                  refine JL_nil ?_
                  refine JE_seq ?_
                  refine JC_seq ?_
                  refine JC_region ?_
                  refine JL_pd rfl (det_move rfl) ?_
                  refine JL_pd rfl (det_not rfl) ?_
                  refine JL_nil ?_
                  refine JE_seq ?_
                  -- stop: cond
                  refine JC_cond rfl (fun k4 => ?_) (fun k4 => ?_)
                  · cases k4
                  refine JC_skip ?_
                  refine JE_seq ?_
                  refine JC_seq ?_
                  refine JC_region ?_
                  refine JL_pd rfl (det_move rfl) ?_
                  refine JL_pd rfl (det_move rfl) ?_
                  refine JL_pd rfl (det_eql rfl rfl) ?_
                  refine JL_pd rfl (det_move rfl) ?_
                  -- stop: guard 3
                  refine JL_is (d0 := 79) true rfl (by simp) (fun h7 => ?_)
                  refine JL_guard rfl rfl h7 ?_
                  refine JL_pd rfl (det_move rfl) ?_
                  refine JL_guard rfl rfl h7 ?_
                  refine JL_pd rfl (det_move rfl) ?_
                  refine JL_guard rfl rfl h7 ?_
                  refine JL_pd rfl (det_eql rfl rfl) ?_
                  refine JL_pd rfl (det_pick_t rfl h7 rfl) ?_
                  refine JL_pd rfl (det_move rfl) ?_
                  refine JL_is (d0 := 84) true rfl (by simp) (fun h8 => ?_)
                  refine JL_guard rfl rfl h8 ?_
                  refine JL_pd rfl (det_move rfl) ?_
                  refine JL_guard rfl rfl h8 ?_
                  refine JL_pd rfl (det_move rfl) ?_
                  refine JL_guard rfl rfl h8 ?_
                  refine JL_pd rfl (det_eql rfl rfl) ?_
                  refine JL_pd rfl (det_pick_t rfl h8 rfl) ?_
                  refine JL_pd rfl (det_move rfl) ?_
                  refine JL_is (d0 := 89) true rfl (by simp) (fun h9 => ?_)
                  refine JL_guard rfl rfl h9 ?_
                  refine JL_step rfl rfl rfl (jo_callv rfl rfl Try.call17 rfl (awake_j)) fun _ => ?_
                  refine JL_pd rfl (det_pick_t rfl h9 rfl) ?_
                  refine JL_pd rfl (det_assign rfl) ?_
                  refine JL_nil ?_
                  refine JE_seq ?_
                  refine JC_ret ?_
                  refine JE_out (.inl rfl) () (results1 Try.results4 (res_tmp rfl)) ?_ (List.Perm.refl _) (fun _ _ => trivial)
                  rfl
                · exact absurd rfl k3
              | none =>
                rw [hv] at hrl hE
                simp only [hE, later3, laterT] at hlat hrl
                refine JC_skip ?_
                refine JE_seq ?_
                refine JC_seq ?_
                refine JC_region ?_
                refine JL_dt rfl (det_loadKA rfl Try.isAgg24 Try.sizeOf24 rfl rfl) ?_
                refine JL_step rfl rfl rfl (jo_call rfl rfl Try.call19 rfl (lHouse_j x (by omega))) fun x28 => ?_
                refine JL_pd rfl (det_move rfl) ?_
                refine JL_step rfl rfl rfl (jo_call rfl rfl Try.call20 rfl (lGroups_j ga gc xs (by omega) hft)) fun x30 => ?_
                refine JL_pd rfl (det_move rfl) ?_
                refine JL_step rfl rfl rfl (jo_call rfl rfl Try.call23 rfl (lList_j plan a cap (by omega))) fun x32 => ?_
                refine JL_pd rfl (det_move rfl) ?_
                refine JL_step rfl rfl rfl (jo_callv rfl rfl Try.call30 rfl (hlat x28 x30 x32)) fun _ => ?_
                refine JL_pd rfl (det_move rfl) ?_
                refine JL_pd rfl (det_extract rfl rfl) ?_
                refine JL_pd rfl (det_extract rfl rfl) ?_
                refine JL_pd rfl (det_extract rfl rfl) ?_
                refine JL_pd rfl (det_assign rfl) ?_
                refine JL_pd rfl (det_assign rfl) ?_
                refine JL_pd rfl (det_assign rfl) ?_
                refine JL_nil ?_
                refine JE_seq ?_
                refine JC_seq ?_
                refine JC_region ?_
                refine JL_dt rfl (det_loadKA rfl Try.isAgg24 Try.sizeOf24 rfl rfl) ?_
                refine JL_pd rfl (det_move rfl) ?_
                refine JL_pd rfl (det_move rfl) ?_
                refine JL_step rfl rfl rfl (jo_callv rfl rfl Try.call25 rfl (hpd)) fun _ => ?_
                refine JL_pd rfl (det_assign rfl) ?_
                refine JL_nil ?_
                refine JE_seq ?_
                refine JC_seq ?_
                refine JC_seq ?_
                refine JC_region ?_
                refine JL_dt rfl (det_loadKA rfl Try.isAgg24 Try.sizeOf24 rfl rfl) ?_
                refine JL_pd rfl (det_move rfl) ?_
                refine JL_step rfl rfl rfl (jo_callv rfl rfl Try.call24 rfl (fault_jl x ga gc xs)) fun _ => ?_
                refine JL_pd rfl (det_eql rfl rfl) ?_
                refine JL_pd rfl (det_move rfl) ?_
                -- stop: guard 4
                refine JL_is (d0 := 46) true rfl (by exact decide_eq_true c1) (fun g1 => ?_)
                refine JL_guard rfl rfl g1 ?_
                refine JL_pd rfl (det_move rfl) ?_
                refine JL_guard rfl rfl g1 ?_
                refine JL_pd rfl (det_move rfl) ?_
                refine JL_guard rfl rfl g1 ?_
                refine JL_pd rfl (det_len rfl Try.runUnderlying25) ?_
                refine JL_guard rfl rfl g1 ?_
                refine JL_pd rfl (det_sub rfl rfl ⟨by omega, by omega⟩) ?_
                refine JL_guard rfl rfl g1 ?_
                refine JL_step rfl rfl rfl (jo_callv rfl rfl Try.call31 rfl (In_j _ _ _)) fun _ => ?_
                refine JL_guard rfl rfl g1 ?_
                refine JL_pd rfl (det_not rfl) ?_
                refine JL_pd rfl (det_pick_t rfl g1 rfl) ?_
                refine JL_nil ?_
                refine JE_seq ?_
                -- stop: cond
                refine JC_cond rfl (fun k1 => ?_) (fun k1 => ?_)
                · exact absurd k1 (by rw [c2]; decide)
                refine JC_skip ?_
                refine JE_seq ?_
                refine JC_seq ?_
                refine JC_seq ?_
                refine JC_region ?_
                refine JL_pd rfl (det_move rfl) ?_
                refine JL_pd rfl (det_eql rfl rfl) ?_
                refine JL_pd rfl (det_move rfl) ?_
                -- stop: guard 2
                refine JL_is (d0 := 56) true rfl (by rfl) (fun g2 => ?_)
                refine JL_guard rfl rfl g2 ?_
                refine JL_pd rfl (det_move rfl) ?_
                refine JL_guard rfl rfl g2 ?_
                refine JL_pd rfl (det_move rfl) ?_
                refine JL_guard rfl rfl g2 ?_
                refine JL_dt rfl (det_indexAddr rfl rfl (by first | rfl | omega) (by first | assumption | omega | decide) Try.runUnderlying22 Try.sizeOf3) ?_
                refine JL_guard rfl rfl g2 ?_
                refine JL_dt rfl (det_loadE rfl (by first | assumption | omega | decide) Try.isAgg3 rfl rfl) ?_
                refine JL_guard rfl rfl g2 ?_
                refine JL_pd rfl (det_geq rfl rfl) ?_
                refine JL_pd rfl (det_pick_t rfl g2 rfl) ?_
                refine JL_nil ?_
                refine JE_seq ?_
                -- stop: cond
                refine JC_if rfl (fun k2 => ?_) (fun k2 => ?_)
                · exact absurd k2 c5
                refine JC_skip ?_
                refine JE_seq ?_
                refine JC_seq ?_
                refine JC_region ?_
                refine JL_pd rfl (det_assign rfl) ?_
                refine JL_pd rfl (det_assign rfl) ?_
                refine JL_nil ?_
                refine JE_seq ?_
                refine JC_seq ?_
                refine JC_seq ?_
                refine JC_region ?_
                refine JL_pd rfl (det_move rfl) ?_
                refine JL_pd rfl (det_eql rfl rfl) ?_
                refine JL_nil ?_
                refine JE_seq ?_
                -- stop: cond
                refine JC_if rfl (fun k3 => ?_) (fun k3 => ?_)
                · refine JC_seq ?_
                  refine JC_region ?_
                  refine JL_pd rfl (det_assign rfl) ?_
                  refine JL_nil ?_
                  refine JE_seq ?_
                  refine JC_seq ?_
                  refine JC_region ?_
                  refine JL_dt rfl (det_loadKA rfl Try.isAgg24 Try.sizeOf24 rfl rfl) ?_
                  refine JL_pd rfl (det_move rfl) ?_
                  refine JL_pd rfl (det_move rfl) ?_
                  refine JL_pd rfl (det_move rfl) ?_
                  refine JL_step rfl rfl rfl (jo_callv rfl rfl Try.call32 rfl (hrl)) fun _ => ?_
                  refine JL_pd rfl (det_move rfl) ?_
                  refine JL_pd rfl (det_extract rfl rfl) ?_
                  refine JL_pd rfl (det_extract rfl rfl) ?_
                  refine JL_pd rfl (det_extract rfl rfl) ?_
                  refine JL_pd rfl (det_assign rfl) ?_
                  refine JL_pd rfl (det_assign rfl) ?_
                  refine JL_pd rfl (det_assign rfl) ?_
                  refine JL_nil ?_
                  refine JE_seq ?_
                  refine JC_seq ?_
                  refine JC_region ?_
                  refine JL_pd rfl (det_move rfl) ?_
                  refine JL_pd rfl (det_not rfl) ?_
                  refine JL_nil ?_
                  refine JE_seq ?_
                  -- stop: cond
                  refine JC_cond rfl (fun k4 => ?_) (fun k4 => ?_)
                  · refine JC_region ?_
                    refine JL_pd rfl (det_assign rfl) ?_
                    refine JL_pd rfl (det_assign rfl) ?_
                    refine JL_pd rfl (det_assign rfl) ?_
                    refine JL_nil ?_
                    refine JE_seq ?_
                    refine JC_seq ?_
                    refine JC_region ?_
                    refine JL_pd rfl (det_move rfl) ?_
                    refine JL_pd rfl (det_move rfl) ?_
                    refine JL_pd rfl (det_eql rfl rfl) ?_
                    refine JL_pd rfl (det_move rfl) ?_
                    -- stop: guard 3
                    refine JL_is (d0 := 79) true rfl (by simp) (fun h10 => ?_)
                    refine JL_guard rfl rfl h10 ?_
                    refine JL_pd rfl (det_move rfl) ?_
                    refine JL_guard rfl rfl h10 ?_
                    refine JL_pd rfl (det_move rfl) ?_
                    refine JL_guard rfl rfl h10 ?_
                    refine JL_pd rfl (det_eql rfl rfl) ?_
                    refine JL_pd rfl (det_pick_t rfl h10 rfl) ?_
                    refine JL_pd rfl (det_move rfl) ?_
                    refine JL_is (d0 := 84) true rfl (by simp) (fun h11 => ?_)
                    refine JL_guard rfl rfl h11 ?_
                    refine JL_pd rfl (det_move rfl) ?_
                    refine JL_guard rfl rfl h11 ?_
                    refine JL_pd rfl (det_move rfl) ?_
                    refine JL_guard rfl rfl h11 ?_
                    refine JL_pd rfl (det_eql rfl rfl) ?_
                    refine JL_pd rfl (det_pick_t rfl h11 rfl) ?_
                    refine JL_pd rfl (det_move rfl) ?_
                    refine JL_is (d0 := 89) true rfl (by simp) (fun h12 => ?_)
                    refine JL_guard rfl rfl h12 ?_
                    refine JL_step rfl rfl rfl (jo_callv rfl rfl Try.call17 rfl (awake_j)) fun _ => ?_
                    refine JL_pd rfl (det_pick_t rfl h12 rfl) ?_
                    refine JL_pd rfl (det_assign rfl) ?_
                    refine JL_nil ?_
                    refine JE_seq ?_
                    refine JC_ret ?_
                    refine JE_out (.inl rfl) () (results1 Try.results4 (res_tmp rfl)) ?_ (List.Perm.refl _) (fun _ _ => trivial)
                    rfl
                  · cases k4
                · exact absurd rfl k3
          · have hpe : plannedE x.h (gs xs) plan = 8 := by unfold plannedE; rw [if_neg (by omega), if_neg (by rw [c3]; decide), if_pos (by simpa using c4)]
            rw [if_pos (.inl (by simpa using c4))] at hE
            rw [hpe] at hpd
            simp only [hE] at hlat
            refine JC_skip ?_
            refine JE_seq ?_
            refine JC_seq ?_
            refine JC_region ?_
            refine JL_dt rfl (det_loadKA rfl Try.isAgg24 Try.sizeOf24 rfl rfl) ?_
            refine JL_step rfl rfl rfl (jo_call rfl rfl Try.call19 rfl (lHouse_j x (by omega))) fun x28 => ?_
            refine JL_pd rfl (det_move rfl) ?_
            refine JL_step rfl rfl rfl (jo_call rfl rfl Try.call20 rfl (lGroups_j ga gc xs (by omega) hft)) fun x30 => ?_
            refine JL_pd rfl (det_move rfl) ?_
            refine JL_step rfl rfl rfl (jo_call rfl rfl Try.call23 rfl (lList_j plan a cap (by omega))) fun x32 => ?_
            refine JL_pd rfl (det_move rfl) ?_
            refine JL_step rfl rfl rfl (jo_callv rfl rfl Try.call30 rfl (hlat x28 x30 x32)) fun _ => ?_
            refine JL_pd rfl (det_move rfl) ?_
            refine JL_pd rfl (det_extract rfl rfl) ?_
            refine JL_pd rfl (det_extract rfl rfl) ?_
            refine JL_pd rfl (det_extract rfl rfl) ?_
            refine JL_pd rfl (det_assign rfl) ?_
            refine JL_pd rfl (det_assign rfl) ?_
            refine JL_pd rfl (det_assign rfl) ?_
            refine JL_nil ?_
            refine JE_seq ?_
            refine JC_seq ?_
            refine JC_region ?_
            refine JL_dt rfl (det_loadKA rfl Try.isAgg24 Try.sizeOf24 rfl rfl) ?_
            refine JL_pd rfl (det_move rfl) ?_
            refine JL_pd rfl (det_move rfl) ?_
            refine JL_step rfl rfl rfl (jo_callv rfl rfl Try.call25 rfl (hpd)) fun _ => ?_
            refine JL_pd rfl (det_assign rfl) ?_
            refine JL_nil ?_
            refine JE_seq ?_
            refine JC_seq ?_
            refine JC_seq ?_
            refine JC_region ?_
            refine JL_dt rfl (det_loadKA rfl Try.isAgg24 Try.sizeOf24 rfl rfl) ?_
            refine JL_pd rfl (det_move rfl) ?_
            refine JL_step rfl rfl rfl (jo_callv rfl rfl Try.call24 rfl (fault_jl x ga gc xs)) fun _ => ?_
            refine JL_pd rfl (det_eql rfl rfl) ?_
            refine JL_pd rfl (det_move rfl) ?_
            -- stop: guard 4
            refine JL_is (d0 := 46) true rfl (by exact decide_eq_true c1) (fun g1 => ?_)
            refine JL_guard rfl rfl g1 ?_
            refine JL_pd rfl (det_move rfl) ?_
            refine JL_guard rfl rfl g1 ?_
            refine JL_pd rfl (det_move rfl) ?_
            refine JL_guard rfl rfl g1 ?_
            refine JL_pd rfl (det_len rfl Try.runUnderlying25) ?_
            refine JL_guard rfl rfl g1 ?_
            refine JL_pd rfl (det_sub rfl rfl ⟨by omega, by omega⟩) ?_
            refine JL_guard rfl rfl g1 ?_
            refine JL_step rfl rfl rfl (jo_callv rfl rfl Try.call31 rfl (In_j _ _ _)) fun _ => ?_
            refine JL_guard rfl rfl g1 ?_
            refine JL_pd rfl (det_not rfl) ?_
            refine JL_pd rfl (det_pick_t rfl g1 rfl) ?_
            refine JL_nil ?_
            refine JE_seq ?_
            -- stop: cond
            refine JC_cond rfl (fun k1 => ?_) (fun k1 => ?_)
            · exact absurd k1 (by rw [c2]; decide)
            refine JC_skip ?_
            refine JE_seq ?_
            refine JC_seq ?_
            refine JC_seq ?_
            refine JC_region ?_
            refine JL_pd rfl (det_move rfl) ?_
            refine JL_pd rfl (det_eql rfl rfl) ?_
            refine JL_pd rfl (det_move rfl) ?_
            -- stop: guard 2
            refine JL_is (d0 := 56) false rfl (by rfl) (fun g2 => ?_)
            refine JL_skip rfl rfl g2 rfl ?_
            refine JL_skip rfl rfl g2 rfl ?_
            refine JL_skip rfl rfl g2 rfl ?_
            refine JL_skip rfl rfl g2 rfl ?_
            refine JL_skip rfl rfl g2 rfl ?_
            refine JL_pd rfl (det_pick_f rfl g2 rfl) ?_
            refine JL_nil ?_
            refine JE_seq ?_
            refine JC_condF rfl rfl ?_
            refine JC_skip ?_
            refine JE_seq ?_
            refine JC_seq ?_
            refine JC_region ?_
            refine JL_pd rfl (det_assign rfl) ?_
            refine JL_pd rfl (det_assign rfl) ?_
            refine JL_nil ?_
            refine JE_seq ?_
            refine JC_seq ?_
            refine JC_seq ?_
            refine JC_region ?_
            refine JL_pd rfl (det_move rfl) ?_
            refine JL_pd rfl (det_eql rfl rfl) ?_
            refine JL_nil ?_
            refine JE_seq ?_
            -- stop: cond
            refine JC_if rfl (fun k3 => ?_) (fun k3 => ?_)
            · exact absurd k3 (by decide)
            refine JC_skip ?_
            refine JE_seq ?_
            refine JC_seq ?_
            refine JC_region ?_
            refine JL_pd rfl (det_move rfl) ?_
            refine JL_pd rfl (det_move rfl) ?_
            refine JL_pd rfl (det_eql rfl rfl) ?_
            refine JL_pd rfl (det_move rfl) ?_
            -- stop: guard 3
            refine JL_is (d0 := 79) true rfl (by simp) (fun h13 => ?_)
            refine JL_guard rfl rfl h13 ?_
            refine JL_pd rfl (det_move rfl) ?_
            refine JL_guard rfl rfl h13 ?_
            refine JL_pd rfl (det_move rfl) ?_
            refine JL_guard rfl rfl h13 ?_
            refine JL_pd rfl (det_eql rfl rfl) ?_
            refine JL_pd rfl (det_pick_t rfl h13 rfl) ?_
            refine JL_pd rfl (det_move rfl) ?_
            refine JL_is (d0 := 84) true rfl (by simp) (fun h14 => ?_)
            refine JL_guard rfl rfl h14 ?_
            refine JL_pd rfl (det_move rfl) ?_
            refine JL_guard rfl rfl h14 ?_
            refine JL_pd rfl (det_move rfl) ?_
            refine JL_guard rfl rfl h14 ?_
            refine JL_pd rfl (det_eql rfl rfl) ?_
            refine JL_pd rfl (det_pick_t rfl h14 rfl) ?_
            refine JL_pd rfl (det_move rfl) ?_
            refine JL_is (d0 := 89) true rfl (by simp) (fun h15 => ?_)
            refine JL_guard rfl rfl h15 ?_
            refine JL_step rfl rfl rfl (jo_callv rfl rfl Try.call17 rfl (awake_j)) fun _ => ?_
            refine JL_pd rfl (det_pick_t rfl h15 rfl) ?_
            refine JL_pd rfl (det_assign rfl) ?_
            refine JL_nil ?_
            refine JE_seq ?_
            refine JC_ret ?_
            refine JE_out (.inl rfl) () (results1 Try.results4 (res_tmp rfl)) ?_ (List.Perm.refl _) (fun _ _ => trivial)
            rfl
        · have hpe : plannedE x.h (gs xs) plan = 2 := by unfold plannedE; rw [if_neg (by omega), if_pos (by simpa using c3)]
          have hE : laterE x (gs xs) plan gi = (0, 0, 2) := by
            unfold laterE
            rw [if_neg (by omega), if_pos (.inl (by simpa using c3))]
          rw [hpe] at hpd
          simp only [hE] at hlat
          refine JC_skip ?_
          refine JE_seq ?_
          refine JC_seq ?_
          refine JC_region ?_
          refine JL_dt rfl (det_loadKA rfl Try.isAgg24 Try.sizeOf24 rfl rfl) ?_
          refine JL_step rfl rfl rfl (jo_call rfl rfl Try.call19 rfl (lHouse_j x (by omega))) fun x28 => ?_
          refine JL_pd rfl (det_move rfl) ?_
          refine JL_step rfl rfl rfl (jo_call rfl rfl Try.call20 rfl (lGroups_j ga gc xs (by omega) hft)) fun x30 => ?_
          refine JL_pd rfl (det_move rfl) ?_
          refine JL_step rfl rfl rfl (jo_call rfl rfl Try.call23 rfl (lList_j plan a cap (by omega))) fun x32 => ?_
          refine JL_pd rfl (det_move rfl) ?_
          refine JL_step rfl rfl rfl (jo_callv rfl rfl Try.call30 rfl (hlat x28 x30 x32)) fun _ => ?_
          refine JL_pd rfl (det_move rfl) ?_
          refine JL_pd rfl (det_extract rfl rfl) ?_
          refine JL_pd rfl (det_extract rfl rfl) ?_
          refine JL_pd rfl (det_extract rfl rfl) ?_
          refine JL_pd rfl (det_assign rfl) ?_
          refine JL_pd rfl (det_assign rfl) ?_
          refine JL_pd rfl (det_assign rfl) ?_
          refine JL_nil ?_
          refine JE_seq ?_
          refine JC_seq ?_
          refine JC_region ?_
          refine JL_dt rfl (det_loadKA rfl Try.isAgg24 Try.sizeOf24 rfl rfl) ?_
          refine JL_pd rfl (det_move rfl) ?_
          refine JL_pd rfl (det_move rfl) ?_
          refine JL_step rfl rfl rfl (jo_callv rfl rfl Try.call25 rfl (hpd)) fun _ => ?_
          refine JL_pd rfl (det_assign rfl) ?_
          refine JL_nil ?_
          refine JE_seq ?_
          refine JC_seq ?_
          refine JC_seq ?_
          refine JC_region ?_
          refine JL_dt rfl (det_loadKA rfl Try.isAgg24 Try.sizeOf24 rfl rfl) ?_
          refine JL_pd rfl (det_move rfl) ?_
          refine JL_step rfl rfl rfl (jo_callv rfl rfl Try.call24 rfl (fault_jl x ga gc xs)) fun _ => ?_
          refine JL_pd rfl (det_eql rfl rfl) ?_
          refine JL_pd rfl (det_move rfl) ?_
          -- stop: guard 4
          refine JL_is (d0 := 46) true rfl (by exact decide_eq_true c1) (fun g1 => ?_)
          refine JL_guard rfl rfl g1 ?_
          refine JL_pd rfl (det_move rfl) ?_
          refine JL_guard rfl rfl g1 ?_
          refine JL_pd rfl (det_move rfl) ?_
          refine JL_guard rfl rfl g1 ?_
          refine JL_pd rfl (det_len rfl Try.runUnderlying25) ?_
          refine JL_guard rfl rfl g1 ?_
          refine JL_pd rfl (det_sub rfl rfl ⟨by omega, by omega⟩) ?_
          refine JL_guard rfl rfl g1 ?_
          refine JL_step rfl rfl rfl (jo_callv rfl rfl Try.call31 rfl (In_j _ _ _)) fun _ => ?_
          refine JL_guard rfl rfl g1 ?_
          refine JL_pd rfl (det_not rfl) ?_
          refine JL_pd rfl (det_pick_t rfl g1 rfl) ?_
          refine JL_nil ?_
          refine JE_seq ?_
          -- stop: cond
          refine JC_cond rfl (fun k1 => ?_) (fun k1 => ?_)
          · exact absurd k1 (by rw [c2]; decide)
          refine JC_skip ?_
          refine JE_seq ?_
          refine JC_seq ?_
          refine JC_seq ?_
          refine JC_region ?_
          refine JL_pd rfl (det_move rfl) ?_
          refine JL_pd rfl (det_eql rfl rfl) ?_
          refine JL_pd rfl (det_move rfl) ?_
          -- stop: guard 2
          refine JL_is (d0 := 56) false rfl (by rfl) (fun g2 => ?_)
          refine JL_skip rfl rfl g2 rfl ?_
          refine JL_skip rfl rfl g2 rfl ?_
          refine JL_skip rfl rfl g2 rfl ?_
          refine JL_skip rfl rfl g2 rfl ?_
          refine JL_skip rfl rfl g2 rfl ?_
          refine JL_pd rfl (det_pick_f rfl g2 rfl) ?_
          refine JL_nil ?_
          refine JE_seq ?_
          refine JC_condF rfl rfl ?_
          refine JC_skip ?_
          refine JE_seq ?_
          refine JC_seq ?_
          refine JC_region ?_
          refine JL_pd rfl (det_assign rfl) ?_
          refine JL_pd rfl (det_assign rfl) ?_
          refine JL_nil ?_
          refine JE_seq ?_
          refine JC_seq ?_
          refine JC_seq ?_
          refine JC_region ?_
          refine JL_pd rfl (det_move rfl) ?_
          refine JL_pd rfl (det_eql rfl rfl) ?_
          refine JL_nil ?_
          refine JE_seq ?_
          -- stop: cond
          refine JC_if rfl (fun k3 => ?_) (fun k3 => ?_)
          · exact absurd k3 (by decide)
          refine JC_skip ?_
          refine JE_seq ?_
          refine JC_seq ?_
          refine JC_region ?_
          refine JL_pd rfl (det_move rfl) ?_
          refine JL_pd rfl (det_move rfl) ?_
          refine JL_pd rfl (det_eql rfl rfl) ?_
          refine JL_pd rfl (det_move rfl) ?_
          -- stop: guard 3
          refine JL_is (d0 := 79) true rfl (by simp) (fun h16 => ?_)
          refine JL_guard rfl rfl h16 ?_
          refine JL_pd rfl (det_move rfl) ?_
          refine JL_guard rfl rfl h16 ?_
          refine JL_pd rfl (det_move rfl) ?_
          refine JL_guard rfl rfl h16 ?_
          refine JL_pd rfl (det_eql rfl rfl) ?_
          refine JL_pd rfl (det_pick_t rfl h16 rfl) ?_
          refine JL_pd rfl (det_move rfl) ?_
          refine JL_is (d0 := 84) true rfl (by simp) (fun h17 => ?_)
          refine JL_guard rfl rfl h17 ?_
          refine JL_pd rfl (det_move rfl) ?_
          refine JL_guard rfl rfl h17 ?_
          refine JL_pd rfl (det_move rfl) ?_
          refine JL_guard rfl rfl h17 ?_
          refine JL_pd rfl (det_eql rfl rfl) ?_
          refine JL_pd rfl (det_pick_t rfl h17 rfl) ?_
          refine JL_pd rfl (det_move rfl) ?_
          refine JL_is (d0 := 89) true rfl (by simp) (fun h18 => ?_)
          refine JL_guard rfl rfl h18 ?_
          refine JL_step rfl rfl rfl (jo_callv rfl rfl Try.call17 rfl (awake_j)) fun _ => ?_
          refine JL_pd rfl (det_pick_t rfl h18 rfl) ?_
          refine JL_pd rfl (det_assign rfl) ?_
          refine JL_nil ?_
          refine JE_seq ?_
          refine JC_ret ?_
          refine JE_out (.inl rfl) () (results1 Try.results4 (res_tmp rfl)) ?_ (List.Perm.refl _) (fun _ _ => trivial)
          rfl
      · have hE : laterE x (gs xs) plan group = (0, 0, 2) := by
          unfold laterE
          rw [if_neg (by omega), if_pos (.inr (by rw [hgl]; simpa using c2))]
        simp only [hE] at hlat
        have c2' : inI group 0 ((xs.length : Int) - 1) = false := by simpa using c2
        refine JC_skip ?_
        refine JE_seq ?_
        refine JC_seq ?_
        refine JC_region ?_
        refine JL_dt rfl (det_loadKA rfl Try.isAgg24 Try.sizeOf24 rfl rfl) ?_
        refine JL_step rfl rfl rfl (jo_call rfl rfl Try.call19 rfl (lHouse_j x (by omega))) fun x28 => ?_
        refine JL_pd rfl (det_move rfl) ?_
        refine JL_step rfl rfl rfl (jo_call rfl rfl Try.call20 rfl (lGroups_j ga gc xs (by omega) hft)) fun x30 => ?_
        refine JL_pd rfl (det_move rfl) ?_
        refine JL_step rfl rfl rfl (jo_call rfl rfl Try.call23 rfl (lList_j plan a cap (by omega))) fun x32 => ?_
        refine JL_pd rfl (det_move rfl) ?_
        refine JL_step rfl rfl rfl (jo_callv rfl rfl Try.call30 rfl (hlat x28 x30 x32)) fun _ => ?_
        refine JL_pd rfl (det_move rfl) ?_
        refine JL_pd rfl (det_extract rfl rfl) ?_
        refine JL_pd rfl (det_extract rfl rfl) ?_
        refine JL_pd rfl (det_extract rfl rfl) ?_
        refine JL_pd rfl (det_assign rfl) ?_
        refine JL_pd rfl (det_assign rfl) ?_
        refine JL_pd rfl (det_assign rfl) ?_
        refine JL_nil ?_
        refine JE_seq ?_
        refine JC_seq ?_
        refine JC_region ?_
        refine JL_dt rfl (det_loadKA rfl Try.isAgg24 Try.sizeOf24 rfl rfl) ?_
        refine JL_pd rfl (det_move rfl) ?_
        refine JL_pd rfl (det_move rfl) ?_
        refine JL_step rfl rfl rfl (jo_callv rfl rfl Try.call25 rfl (hpd)) fun _ => ?_
        refine JL_pd rfl (det_assign rfl) ?_
        refine JL_nil ?_
        refine JE_seq ?_
        refine JC_seq ?_
        refine JC_seq ?_
        refine JC_region ?_
        refine JL_dt rfl (det_loadKA rfl Try.isAgg24 Try.sizeOf24 rfl rfl) ?_
        refine JL_pd rfl (det_move rfl) ?_
        refine JL_step rfl rfl rfl (jo_callv rfl rfl Try.call24 rfl (fault_jl x ga gc xs)) fun _ => ?_
        refine JL_pd rfl (det_eql rfl rfl) ?_
        refine JL_pd rfl (det_move rfl) ?_
        -- stop: guard 4
        refine JL_is (d0 := 46) true rfl (by exact decide_eq_true c1) (fun g1 => ?_)
        refine JL_guard rfl rfl g1 ?_
        refine JL_pd rfl (det_move rfl) ?_
        refine JL_guard rfl rfl g1 ?_
        refine JL_pd rfl (det_move rfl) ?_
        refine JL_guard rfl rfl g1 ?_
        refine JL_pd rfl (det_len rfl Try.runUnderlying25) ?_
        refine JL_guard rfl rfl g1 ?_
        refine JL_pd rfl (det_sub rfl rfl ⟨by omega, by omega⟩) ?_
        refine JL_guard rfl rfl g1 ?_
        refine JL_step rfl rfl rfl (jo_callv rfl rfl Try.call31 rfl (In_j _ _ _)) fun _ => ?_
        refine JL_guard rfl rfl g1 ?_
        refine JL_pd rfl (det_not rfl) ?_
        refine JL_pd rfl (det_pick_t rfl g1 rfl) ?_
        refine JL_nil ?_
        refine JE_seq ?_
        -- stop: cond
        refine JC_cond rfl (fun k1 => ?_) (fun k1 => ?_)
        · refine JC_region ?_
          refine JL_pd rfl (det_assign rfl) ?_
          refine JL_nil ?_
          refine JE_seq ?_
          refine JC_seq ?_
          refine JC_seq ?_
          refine JC_region ?_
          refine JL_pd rfl (det_move rfl) ?_
          refine JL_pd rfl (det_eql rfl rfl) ?_
          refine JL_pd rfl (det_move rfl) ?_
          -- stop: guard 2
          refine JL_is (d0 := 56) false rfl (by rfl) (fun g2 => ?_)
          refine JL_skip rfl rfl g2 rfl ?_
          refine JL_skip rfl rfl g2 rfl ?_
          refine JL_skip rfl rfl g2 rfl ?_
          refine JL_skip rfl rfl g2 rfl ?_
          refine JL_skip rfl rfl g2 rfl ?_
          refine JL_pd rfl (det_pick_f rfl g2 rfl) ?_
          refine JL_nil ?_
          refine JE_seq ?_
          refine JC_condF rfl rfl ?_
          refine JC_skip ?_
          refine JE_seq ?_
          refine JC_seq ?_
          refine JC_region ?_
          refine JL_pd rfl (det_assign rfl) ?_
          refine JL_pd rfl (det_assign rfl) ?_
          refine JL_nil ?_
          refine JE_seq ?_
          refine JC_seq ?_
          refine JC_seq ?_
          refine JC_region ?_
          refine JL_pd rfl (det_move rfl) ?_
          refine JL_pd rfl (det_eql rfl rfl) ?_
          refine JL_nil ?_
          refine JE_seq ?_
          -- stop: cond
          refine JC_if rfl (fun k3 => ?_) (fun k3 => ?_)
          · exact absurd k3 (by decide)
          refine JC_skip ?_
          refine JE_seq ?_
          refine JC_seq ?_
          refine JC_region ?_
          refine JL_pd rfl (det_move rfl) ?_
          refine JL_pd rfl (det_move rfl) ?_
          refine JL_pd rfl (det_eql rfl rfl) ?_
          refine JL_pd rfl (det_move rfl) ?_
          -- stop: guard 3
          refine JL_is (d0 := 79) true rfl (by simp) (fun h19 => ?_)
          refine JL_guard rfl rfl h19 ?_
          refine JL_pd rfl (det_move rfl) ?_
          refine JL_guard rfl rfl h19 ?_
          refine JL_pd rfl (det_move rfl) ?_
          refine JL_guard rfl rfl h19 ?_
          refine JL_pd rfl (det_eql rfl rfl) ?_
          refine JL_pd rfl (det_pick_t rfl h19 rfl) ?_
          refine JL_pd rfl (det_move rfl) ?_
          refine JL_is (d0 := 84) true rfl (by simp) (fun h20 => ?_)
          refine JL_guard rfl rfl h20 ?_
          refine JL_pd rfl (det_move rfl) ?_
          refine JL_guard rfl rfl h20 ?_
          refine JL_pd rfl (det_move rfl) ?_
          refine JL_guard rfl rfl h20 ?_
          refine JL_pd rfl (det_eql rfl rfl) ?_
          refine JL_pd rfl (det_pick_t rfl h20 rfl) ?_
          refine JL_pd rfl (det_move rfl) ?_
          refine JL_is (d0 := 89) true rfl (by simp) (fun h21 => ?_)
          refine JL_guard rfl rfl h21 ?_
          refine JL_step rfl rfl rfl (jo_callv rfl rfl Try.call17 rfl (awake_j)) fun _ => ?_
          refine JL_pd rfl (det_pick_t rfl h21 rfl) ?_
          refine JL_pd rfl (det_assign rfl) ?_
          refine JL_nil ?_
          refine JE_seq ?_
          refine JC_ret ?_
          refine JE_out (.inl rfl) () (results1 Try.results4 (res_tmp rfl)) ?_ (List.Perm.refl _) (fun _ _ => trivial)
          rfl
        · exact absurd k1 (by rw [c2']; decide)
    · have hpe : plannedE x.h (gs xs) plan = fault x.h (gs xs) := by unfold plannedE; rw [if_pos c1]
      have hE : laterE x (gs xs) plan group = (0, 0, fault x.h (gs xs)) := by
        unfold laterE
        rw [if_pos c1]
      rw [hpe] at hpd
      simp only [hE] at hlat
      refine JC_skip ?_
      refine JE_seq ?_
      refine JC_seq ?_
      refine JC_region ?_
      refine JL_dt rfl (det_loadKA rfl Try.isAgg24 Try.sizeOf24 rfl rfl) ?_
      refine JL_step rfl rfl rfl (jo_call rfl rfl Try.call19 rfl (lHouse_j x (by omega))) fun x28 => ?_
      refine JL_pd rfl (det_move rfl) ?_
      refine JL_step rfl rfl rfl (jo_call rfl rfl Try.call20 rfl (lGroups_j ga gc xs (by omega) hft)) fun x30 => ?_
      refine JL_pd rfl (det_move rfl) ?_
      refine JL_step rfl rfl rfl (jo_call rfl rfl Try.call23 rfl (lList_j plan a cap (by omega))) fun x32 => ?_
      refine JL_pd rfl (det_move rfl) ?_
      refine JL_step rfl rfl rfl (jo_callv rfl rfl Try.call30 rfl (hlat x28 x30 x32)) fun _ => ?_
      refine JL_pd rfl (det_move rfl) ?_
      refine JL_pd rfl (det_extract rfl rfl) ?_
      refine JL_pd rfl (det_extract rfl rfl) ?_
      refine JL_pd rfl (det_extract rfl rfl) ?_
      refine JL_pd rfl (det_assign rfl) ?_
      refine JL_pd rfl (det_assign rfl) ?_
      refine JL_pd rfl (det_assign rfl) ?_
      refine JL_nil ?_
      refine JE_seq ?_
      refine JC_seq ?_
      refine JC_region ?_
      refine JL_dt rfl (det_loadKA rfl Try.isAgg24 Try.sizeOf24 rfl rfl) ?_
      refine JL_pd rfl (det_move rfl) ?_
      refine JL_pd rfl (det_move rfl) ?_
      refine JL_step rfl rfl rfl (jo_callv rfl rfl Try.call25 rfl (hpd)) fun _ => ?_
      refine JL_pd rfl (det_assign rfl) ?_
      refine JL_nil ?_
      refine JE_seq ?_
      refine JC_seq ?_
      refine JC_seq ?_
      refine JC_region ?_
      refine JL_dt rfl (det_loadKA rfl Try.isAgg24 Try.sizeOf24 rfl rfl) ?_
      refine JL_pd rfl (det_move rfl) ?_
      refine JL_step rfl rfl rfl (jo_callv rfl rfl Try.call24 rfl (fault_jl x ga gc xs)) fun _ => ?_
      refine JL_pd rfl (det_eql rfl rfl) ?_
      refine JL_pd rfl (det_move rfl) ?_
      -- stop: guard 4
      refine JL_is (d0 := 46) false rfl (by exact decide_eq_false c1) (fun g1 => ?_)
      refine JL_skip rfl rfl g1 rfl ?_
      refine JL_skip rfl rfl g1 rfl ?_
      refine JL_skip rfl rfl g1 rfl ?_
      refine JL_skip rfl rfl g1 rfl ?_
      refine JL_skip rfl rfl g1 rfl ?_
      refine JL_skip rfl rfl g1 rfl ?_
      refine JL_pd rfl (det_pick_f rfl g1 rfl) ?_
      refine JL_nil ?_
      refine JE_seq ?_
      refine JC_condF rfl rfl ?_
      refine JC_skip ?_
      refine JE_seq ?_
      refine JC_seq ?_
      refine JC_seq ?_
      refine JC_region ?_
      refine JL_pd rfl (det_move rfl) ?_
      refine JL_pd rfl (det_eql rfl rfl) ?_
      refine JL_pd rfl (det_move rfl) ?_
      -- stop: guard 2
      refine JL_is (d0 := 56) false rfl (by exact decide_eq_false c1) (fun g2 => ?_)
      refine JL_skip rfl rfl g2 rfl ?_
      refine JL_skip rfl rfl g2 rfl ?_
      refine JL_skip rfl rfl g2 rfl ?_
      refine JL_skip rfl rfl g2 rfl ?_
      refine JL_skip rfl rfl g2 rfl ?_
      refine JL_pd rfl (det_pick_f rfl g2 rfl) ?_
      refine JL_nil ?_
      refine JE_seq ?_
      refine JC_condF rfl rfl ?_
      refine JC_skip ?_
      refine JE_seq ?_
      refine JC_seq ?_
      refine JC_region ?_
      refine JL_pd rfl (det_assign rfl) ?_
      refine JL_pd rfl (det_assign rfl) ?_
      refine JL_nil ?_
      refine JE_seq ?_
      refine JC_seq ?_
      refine JC_seq ?_
      refine JC_region ?_
      refine JL_pd rfl (det_move rfl) ?_
      refine JL_pd rfl (det_eql rfl rfl) ?_
      refine JL_nil ?_
      refine JE_seq ?_
      -- stop: cond
      refine JC_if rfl (fun k3 => ?_) (fun k3 => ?_)
      · exact absurd k3 c1
      refine JC_skip ?_
      refine JE_seq ?_
      refine JC_seq ?_
      refine JC_region ?_
      refine JL_pd rfl (det_move rfl) ?_
      refine JL_pd rfl (det_move rfl) ?_
      refine JL_pd rfl (det_eql rfl rfl) ?_
      refine JL_pd rfl (det_move rfl) ?_
      -- stop: guard 3
      refine JL_is (d0 := 79) true rfl (by simp) (fun h22 => ?_)
      refine JL_guard rfl rfl h22 ?_
      refine JL_pd rfl (det_move rfl) ?_
      refine JL_guard rfl rfl h22 ?_
      refine JL_pd rfl (det_move rfl) ?_
      refine JL_guard rfl rfl h22 ?_
      refine JL_pd rfl (det_eql rfl rfl) ?_
      refine JL_pd rfl (det_pick_t rfl h22 rfl) ?_
      refine JL_pd rfl (det_move rfl) ?_
      refine JL_is (d0 := 84) true rfl (by simp) (fun h23 => ?_)
      refine JL_guard rfl rfl h23 ?_
      refine JL_pd rfl (det_move rfl) ?_
      refine JL_guard rfl rfl h23 ?_
      refine JL_pd rfl (det_move rfl) ?_
      refine JL_guard rfl rfl h23 ?_
      refine JL_pd rfl (det_eql rfl rfl) ?_
      refine JL_pd rfl (det_pick_t rfl h23 rfl) ?_
      refine JL_pd rfl (det_move rfl) ?_
      refine JL_is (d0 := 89) true rfl (by simp) (fun h24 => ?_)
      refine JL_guard rfl rfl h24 ?_
      refine JL_step rfl rfl rfl (jo_callv rfl rfl Try.call17 rfl (awake_j)) fun _ => ?_
      refine JL_pd rfl (det_pick_t rfl h24 rfl) ?_
      refine JL_pd rfl (det_assign rfl) ?_
      refine JL_nil ?_
      refine JE_seq ?_
      refine JC_ret ?_
      refine JE_out (.inl rfl) () (results1 Try.results4 (res_tmp rfl)) ?_ (List.Perm.refl _) (fun _ _ => trivial)
      rfl
end Go.Proofs.Ytkmaafnbefpdjaa

/- The statements about lend: LendOnce. -/
namespace Go.Proofs.Ytkmaafnbefpdjaa
open Go.RowKit Go.Shelf

def encU (n : Int) : List Value := [.int .u16 n]
instance : Rec encU 1 := ⟨fun _ => rfl, by decide⟩
def wordsOk (ws : List Int) : Prop := ∀ x ∈ ws, 0 ≤ x ∧ x ≤ 65535
def wordV (ws : List Int) (at_ : Nat) : Int := if ws.length = 0 then 0 else ws.getD (at_ % ws.length) 0
theorem word_bd {ws : List Int} (h : wordsOk ws) (n : Nat) : 0 ≤ wordV ws n ∧ wordV ws n ≤ 65535 := by
  unfold wordV
  split
  · omega
  · rename_i hne
    have hlt := Nat.mod_lt n (Nat.pos_of_ne_zero hne)
    rw [List.getD_eq_getElem?_getD, List.getElem?_eq_getElem hlt]
    exact h _ (List.getElem_mem hlt)
theorem word_j (ws : List Int) (a : Option Addr) (c : Nat) (n : Nat) (hw : wordsOk ws) : Cv Try.prog 34 [.slice a ws.length c, I n] (KSl a ws.length c encU ws) (I (wordV ws n)) := by
  refine Cx_of Try.func34 rfl Try.ntmps34 rfl fun w0 M0 => ?_
  refine JC_seq ?_
  refine JC_region ?_
  refine JL_pd rfl (det_assign rfl) ?_
  refine JL_nil ?_
  refine JE_seq ?_
  refine JC_seq ?_
  refine JC_seq ?_
  refine JC_region ?_
  refine JL_pd rfl (det_move rfl) ?_
  refine JL_pd rfl (det_len rfl Try.runUnderlying50) ?_
  refine JL_pd rfl (det_eql rfl rfl) ?_
  refine JL_nil ?_
  refine JE_seq ?_
  -- stop: cond
  refine JC_if rfl (fun h1 => ?_) (fun h1 => ?_)
  · refine JC_seq ?_
    refine JC_region ?_
    refine JL_pd rfl (det_assign rfl) ?_
    refine JL_nil ?_
    refine JE_seq ?_
    refine JC_ret ?_
    refine JE_seq_ret ?_
    -- stop: out
    refine JE_out (.inl rfl) () (results1 Try.results34 (res_tmp rfl)) (by unfold wordV; rw [if_pos (by omega)]) (List.Perm.refl _) (fun _ _ => trivial)
  · have hne : ws.length ≠ 0 := by omega
    have hlt := Nat.mod_lt n (Nat.pos_of_ne_zero hne)
    have hb := hw _ (List.getElem_mem hlt)
    have hm : (n : Int).tmod (ws.length : Int) = ((n % ws.length : Nat) : Int) := by rw [Int.tmod_eq_emod_of_nonneg (by omega)]; rfl
    refine JC_skip ?_
    refine JE_seq ?_
    refine JC_seq ?_
    refine JC_region ?_
    refine JL_pd rfl (det_move rfl) ?_
    refine JL_pd rfl (det_move rfl) ?_
    refine JL_pd rfl (det_move rfl) ?_
    refine JL_pd rfl (det_len rfl Try.runUnderlying50) ?_
    refine JL_pd rfl (det_rem rfl rfl (by omega)) ?_
    refine JL_dt rfl (det_indexAddr rfl rfl (by first | rfl | omega) (by first | assumption | omega | decide) Try.runUnderlying50 Try.sizeOf96) ?_
    refine JL_dt rfl (det_loadE rfl (by first | assumption | omega | decide) Try.isAgg96 rfl rfl) ?_
    refine JL_pd rfl (det_convI rfl Try.runUnderlying96 Try.runUnderlying3 (i64_wrap ⟨by omega, by omega⟩)) ?_
    refine JL_pd rfl (det_assign rfl) ?_
    refine JL_nil ?_
    refine JE_seq ?_
    refine JC_ret ?_
    -- stop: out
    refine JE_out (.inl rfl) () (results1 Try.results34 (res_tmp rfl)) (by unfold wordV; rw [if_neg hne, List.getD_eq_getElem?_getD, List.getElem?_eq_getElem hlt]; rfl) (List.Perm.refl _) (fun _ _ => trivial)
def readyB (h : Hs) (l : List Gr) : Bool := thinB h l && decide (fault h l = 0)
theorem ready_j (x : Hx) (ga : Option Addr) (gc : Nat) (xs : List Gx) : Cv Try.prog 33 [.agg #[I x.h.lanes, .slice x.a x.h.shoes.length x.c], .slice ga xs.length gc] (KAnd (KHx x) (KGs ga gc xs)) (.bool (readyB x.h (gs xs))) := by
  refine Cx_of Try.func33 rfl Try.ntmps33 rfl fun w0 M0 => ?_
  refine JC_seq ?_
  refine JC_region ?_
  refine JL_step rfl rfl rfl (jo_box rfl rfl) fun b2 => ?_
  refine JL_pd rfl (det_assign rfl) ?_
  refine JL_nil ?_
  refine JE_seq ?_
  refine JC_seq ?_
  refine JC_region ?_
  refine JL_dt rfl (det_loadKA rfl Try.isAgg24 Try.sizeOf24 rfl rfl) ?_
  refine JL_pd rfl (det_move rfl) ?_
  refine JL_step rfl rfl rfl (jo_callv rfl rfl Try.call16 rfl (Thin_j x ga gc xs)) fun _ => ?_
  refine JL_pd rfl (det_move rfl) ?_
  -- stop: guard 3
  refine JL_join1 6 4 (.bool (thinB x.h (gs xs) && decide (fault x.h (gs xs) = 0))) (fun hj => ?_) ?_
  · refine JL_split (d0 := 8) rfl (fun q1 => ?_) (fun q1 => ?_)
    · refine JL_guard rfl rfl q1 ?_
      refine JL_dt rfl (det_loadKA rfl Try.isAgg24 Try.sizeOf24 rfl rfl) ?_
      refine JL_guard rfl rfl q1 ?_
      refine JL_pd rfl (det_move rfl) ?_
      refine JL_guard rfl rfl q1 ?_
      refine JL_step rfl rfl rfl (jo_callv rfl rfl Try.call67 rfl (Fault_j x ga gc xs)) fun _ => ?_
      refine JL_guard rfl rfl q1 ?_
      refine JL_pd rfl (det_eql rfl rfl) ?_
      refine JL_pd rfl (det_pick_t rfl q1 rfl) ?_
      refine JL_pd rfl (det_assign rfl) ?_
      exact hj (by kernel_rfl) (stsub_consB rfl (by clear hj; first | rfl | (simp only [q1, Bool.and_true, Bool.true_and, Bool.false_and, Bool.and_false, Bool.or_true, Bool.true_or, Bool.or_false, Bool.false_or, Bool.not_true, Bool.not_false]; done) | (simp [q1]; done) | (simp at q1; done) | (simp [q1] <;> omega) | (exfalso; simp at q1; omega)) stsub_nil)
    · refine JL_skip rfl rfl q1 rfl ?_
      refine JL_skip rfl rfl q1 rfl ?_
      refine JL_skip rfl rfl q1 rfl ?_
      refine JL_skip rfl rfl q1 rfl ?_
      refine JL_pd rfl (det_pick_f rfl q1 rfl) ?_
      refine JL_pd rfl (det_assign rfl) ?_
      exact hj (by kernel_rfl) (stsub_consB rfl (by clear hj; first | rfl | (simp only [q1, Bool.and_true, Bool.true_and, Bool.false_and, Bool.and_false, Bool.or_true, Bool.true_or, Bool.or_false, Bool.false_or, Bool.not_true, Bool.not_false]; done) | (simp [q1]; done) | (simp at q1; done) | (simp [q1] <;> omega) | (exfalso; simp at q1; omega)) stsub_nil)
  refine JL_nil ?_
  refine JE_seq ?_
  refine JC_ret ?_
  -- stop: out
  refine JE_out (.inl rfl) () (results1 Try.results33 (res_tmp rfl)) rfl (List.Perm.refl _) (fun _ _ => trivial)
/-- Plans, with where they lie. -/
structure SL where
  a : Option Addr
  c : Nat
  l : List Int
def encSL (s : SL) : List Value := [.slice s.a s.l.length s.c]
instance : Rec encSL 1 := ⟨fun _ => rfl, by decide⟩
def KSLs (ps : List SL) : World → Prop := fun w => ∀ s ∈ ps, KSl s.a s.l.length s.c encI s.l w
theorem getD_snoc_lt {l : List Int} {v : Int} {m : Nat} (h : m < l.length) : (l ++ [v]).getD m 0 = l.getD m 0 := by
  rw [List.getD_eq_getElem?_getD, List.getD_eq_getElem?_getD, List.getElem?_append_left h]
theorem getD_snoc_eq {l : List Int} {v : Int} {m : Nat} (h : l.length = m) : (l ++ [v]).getD m 0 = v := by
  subst h
  rw [List.getD_eq_getElem?_getD, List.getElem?_append_right (Nat.le_refl _), Nat.sub_self]; rfl
theorem getD_get {l : List Int} {m : Nat} (h : m < l.length) : l.getD m 0 = l[m] := by
  rw [List.getD_eq_getElem?_getD, List.getElem?_eq_getElem h]; rfl
structure GoodP (k : Int) (l : List Gr) (p : List Int) : Prop where
  n : p.length = l.length
  lane : ∀ n ∈ p, -1 ≤ n ∧ n < k
  right : RightZ (l.zip p)
theorem goodP_of {x : Hx} {l : List Gr} {p : List Int} (h : plannedE x.h l p = 0) : GoodP x.h.lanes l p := by
  unfold plannedE at h
  split at h
  · rename_i h1; exact absurd h h1
  · split at h
    · omega
    · split at h
      · omega
      · rename_i h1 h2 h3
        have h2 : isPlan x.h.lanes l p = true := by simpa using h2
        have h3 : rightB l p = true := by simpa using h3
        unfold isPlan at h2
        rw [Bool.and_eq_true, decide_eq_true_eq, List.all_eq_true] at h2
        exact ⟨h2.2, fun n hn => by have := inI_iff.1 (h2.1 n hn); omega, of_decide_eq_true h3⟩
theorem ready_of {h : Hs} {l : List Gr} (q : readyB h l = true) : (h.shoes.length ≤ 14 ∧ l.length ≤ 12 ∧ ∀ g ∈ l, g.feet.length ≤ 10) ∧ fault h l = 0 := by
  unfold readyB at q
  rw [Bool.and_eq_true, decide_eq_true_eq] at q
  exact ⟨thin_lens q.1, q.2⟩
set_option maxRecDepth 100000 in
set_option maxHeartbeats 2000000 in
theorem LendOnce_j (x : Hx) (ga : Option Addr) (gc : Nat) (xs : List Gx) (a : Option Addr) (cap : Nat) (plan : List Int) (wa : Option Addr) (wc : Nat) (ws : List Int) (hw : wordsOk ws) : Cv Try.prog 5 [.agg #[I x.h.lanes, .slice x.a x.h.shoes.length x.c], .slice ga xs.length gc, .slice a plan.length cap, .slice wa ws.length wc] (KAnd (KHx x) (KAnd (KGs ga gc xs) (KAnd (KSl a plan.length cap encI plan) (KSl wa ws.length wc encU ws)))) (.bool true) := by
  refine Cx_of Try.func5 rfl Try.ntmps5 rfl fun w0 M0 => ?_
  refine JC_seq ?_
  refine JC_region ?_
  refine JL_step rfl rfl rfl (jo_box rfl rfl) fun b4 => ?_
  refine JL_pd rfl (det_assign rfl) ?_
  refine JL_nil ?_
  refine JE_seq ?_
  refine JC_seq ?_
  refine JC_seq ?_
  refine JC_region ?_
  refine JL_dt rfl (det_loadKA rfl Try.isAgg24 Try.sizeOf24 rfl rfl) ?_
  refine JL_pd rfl (det_move rfl) ?_
  refine JL_step rfl rfl rfl (jo_callv rfl rfl Try.call33 rfl (ready_j x ga gc xs)) fun _ => ?_
  refine JL_pd rfl (det_not rfl) ?_
  refine JL_pd rfl (det_move rfl) ?_
  -- stop: guard 4
  refine JL_join1 4 25 (.bool (!readyB x.h (gs xs) || decide ((12 : Int) < (plan.length : Int)))) (fun hj => ?_) ?_
  · refine JL_split (d0 := 21) rfl (fun q2 => ?_) (fun q2 => ?_)
    · refine JL_skip rfl rfl q2 rfl ?_
      refine JL_skip rfl rfl q2 rfl ?_
      refine JL_skip rfl rfl q2 rfl ?_
      refine JL_pd rfl (det_pick_t rfl q2 rfl) ?_
      exact hj (by kernel_rfl) (stsub_consB rfl (by clear hj; first | rfl | (simp only [q2, Bool.and_true, Bool.true_and, Bool.false_and, Bool.and_false, Bool.or_true, Bool.true_or, Bool.or_false, Bool.false_or, Bool.not_true, Bool.not_false]; done) | (simp [q2]; done) | (simp at q2; done) | (simp [q2] <;> omega) | (exfalso; simp at q2; omega)) stsub_nil)
    · refine JL_guard rfl rfl q2 ?_
      refine JL_pd rfl (det_move rfl) ?_
      refine JL_guard rfl rfl q2 ?_
      refine JL_pd rfl (det_len rfl Try.runUnderlying22) ?_
      refine JL_guard rfl rfl q2 ?_
      refine JL_pd rfl (det_gtr rfl rfl) ?_
      refine JL_pd rfl (det_pick_f rfl q2 rfl) ?_
      exact hj (by kernel_rfl) (stsub_consB rfl (by clear hj; first | rfl | (simp only [q2, Bool.and_true, Bool.true_and, Bool.false_and, Bool.and_false, Bool.or_true, Bool.true_or, Bool.or_false, Bool.false_or, Bool.not_true, Bool.not_false]; done) | (simp [q2]; done) | (simp at q2; done) | (simp [q2] <;> omega) | (exfalso; simp at q2; omega)) stsub_nil)
  refine JL_nil ?_
  refine JE_seq ?_
  -- stop: cond
  refine JC_cond rfl (fun h1 => ?_) (fun h1 => ?_)
  · refine JC_seq ?_
    refine JC_region ?_
    refine JL_step rfl rfl rfl (jo_callv rfl rfl Try.call17 rfl (awake_j)) fun _ => ?_
    refine JL_pd rfl (det_assign rfl) ?_
    refine JL_nil ?_
    refine JE_seq ?_
    refine JC_ret ?_
    refine JE_seq_ret ?_
    -- stop: out
    refine JE_out (.inl rfl) () (results1 Try.results5 (res_tmp rfl)) rfl (List.Perm.refl _) (fun _ _ => trivial)
  · simp only [Bool.or_eq_false_iff, Bool.not_eq_false', decide_eq_false_iff_not] at h1
    obtain ⟨h1, h2⟩ := h1
    obtain ⟨⟨t1, t2, t3⟩, c1⟩ := ready_of h1
    have hgl : (gs xs).length = xs.length := List.length_map _
    rw [hgl] at t2
    have hpl : plan.length ≤ 12 := by omega
    have hft : ∀ y ∈ xs, y.g.feet.length ≤ 1000 := fun y hy => by have := t3 y.g (List.mem_map.2 ⟨y, hy, rfl⟩); omega
    have V := vld_of c1
    have hl0 := V.hs.l0
    have hl1 := V.hs.l1
    have hgs : ∀ i (hi : i < xs.length), (gs xs)[i]'(by omega) = xs[i].g := fun i hi => by simp [gs]
    have hVg : ∀ i (hi : i < xs.length), VGr xs[i].g := fun i hi => V.gr _ (List.mem_map.2 ⟨_, List.getElem_mem hi, rfl⟩)
    refine JC_skip ?_
    refine JE_seq ?_
    refine JC_seq ?_
    refine JC_region ?_
    refine JL_dt rfl (det_loadKA rfl Try.isAgg24 Try.sizeOf24 rfl rfl) ?_
    refine JL_step rfl rfl rfl (jo_call rfl rfl Try.call19 rfl (lHouse_j x (by omega))) fun x29 => ?_
    refine JL_pd rfl (det_move rfl) ?_
    refine JL_step rfl rfl rfl (jo_call rfl rfl Try.call20 rfl (lGroups_j ga gc xs (by omega) hft)) fun x31 => ?_
    refine JL_step rfl rfl rfl (jo_call rfl rfl Try.call21 rfl (Serve_c x x29 xs x31 c1)) fun x32 => ?_
    refine JL_pd rfl (det_move rfl) ?_
    refine JL_pd rfl (det_extract rfl rfl) ?_
    refine JL_pd rfl (det_extract rfl rfl) ?_
    refine JL_pd rfl (det_assign rfl) ?_
    refine JL_pd rfl (det_assign rfl) ?_
    refine JL_nil ?_
    refine JE_seq ?_
    refine JC_seq ?_
    refine JC_seq ?_
    refine JC_region ?_
    refine JL_pd rfl (det_move rfl) ?_
    refine JL_pd rfl (det_neq rfl rfl) ?_
    refine JL_pd rfl (det_move rfl) ?_
    -- stop: guard 2
    obtain ⟨pb, p, hp⟩ := x32
    have hF := serve_facts V.gr hp
    have hpn : p.length = xs.length := by rw [hF.n, hgl]
    have hgp : GoodP x.h.lanes (gs xs) p := ⟨hF.n, fun n hn => by have := hF.lane n hn; omega, hF.right⟩
    refine JL_is (d0 := 37) false rfl (by rfl) (fun g1 => ?_)
    refine JL_guard rfl rfl g1 ?_
    refine JL_pd rfl (det_move rfl) ?_
    refine JL_guard rfl rfl g1 ?_
    refine JL_pd rfl (det_len rfl Try.runUnderlying22) ?_
    refine JL_guard rfl rfl g1 ?_
    refine JL_pd rfl (det_move rfl) ?_
    refine JL_guard rfl rfl g1 ?_
    refine JL_pd rfl (det_len rfl Try.runUnderlying25) ?_
    refine JL_guard rfl rfl g1 ?_
    refine JL_pd rfl (det_neq rfl rfl) ?_
    refine JL_pd rfl (det_pick_f rfl g1 rfl) ?_
    refine JL_nil ?_
    refine JE_seq ?_
    -- stop: cond
    refine JC_cond rfl (fun k1 => ?_) (fun k1 => ?_)
    · exact absurd k1 (by simp; omega)
    refine JC_skip ?_
    refine JE_seq ?_
    refine JC_seq ?_
    refine JC_region ?_
    refine JL_pd rfl (det_move rfl) ?_
    refine JL_step rfl rfl rfl (jo_buildOwn (z := 1) rfl (bsl_51_1_0 _ _ _) rfl (by decide)) fun b45 => ?_
    refine JL_pd rfl (det_assign rfl) ?_
    refine JL_nil ?_
    refine JE_seq ?_
    refine JC_seq ?_
    refine JC_seq ?_
    refine JC_region ?_
    refine JL_dt rfl (det_loadKA rfl Try.isAgg24 Try.sizeOf24 rfl rfl) ?_
    refine JL_step rfl rfl rfl (jo_call rfl rfl Try.call19 rfl (lHouse_j x (by omega))) fun x47 => ?_
    refine JL_pd rfl (det_move rfl) ?_
    refine JL_step rfl rfl rfl (jo_call rfl rfl Try.call20 rfl (lGroups_j ga gc xs (by omega) hft)) fun x49 => ?_
    refine JL_pd rfl (det_move rfl) ?_
    refine JL_step rfl rfl rfl (jo_call rfl rfl Try.call23 rfl (lList_j plan a cap (by omega))) fun x51 => ?_
    refine JL_step rfl rfl rfl (jo_callv rfl rfl Try.call22 rfl (ProvePlan_c x x47 xs x49 plan x51.1 x51.2 0)) fun _ => ?_
    refine JL_nil ?_
    refine JE_seq ?_
    -- stop: cond
    refine JC_keep b4 noFp ?_
    generalize hsp : (⟨some ⟨pb, 0, none⟩, p.length, p⟩ : SL) = sp
    have hspl : encSL sp = [.slice (some ⟨pb, 0, none⟩) p.length p.length] := by rw [← hsp]; rfl
    have hspg : GoodP x.h.lanes (gs xs) sp.l := by rw [← hsp]; exact hgp
    have hspk : ∀ w, KSl (some ⟨pb, 0, none⟩) p.length p.length encI p w → KSl sp.a sp.l.length sp.c encI sp.l w := fun w h => by rw [← hsp]; exact h
    refine JC_cutK (γ := Value × List SL) (fun q => q.2.length ≤ 2 ∧ ∀ s ∈ q.2, GoodP x.h.lanes (gs xs) s.l) (fun q => [(11, q.1)]) (fun q => [ow q.1 22 1 q.2.length (q.2.flatMap encSL)]) (fun q => KSLs q.2) [] (fun K hK => ?_) (fun q hq => ?_)
    · skip
      -- stop: cond
      refine JC_cond rfl (fun k2 => ?_) (fun k2 => ?_)
      · rw [Bool.and_eq_true, decide_eq_true_eq] at k2
        have hg2 := goodP_of k2.1
        refine JC_region ?_
        refine JL_pd rfl (det_move rfl) ?_
        refine JL_pd rfl (det_move rfl) ?_
        refine JL_step rfl rfl rfl (jo_buildSlice rfl (bsl_51_1_0 _ _ _)) fun b55 => ?_
        refine JL_step rfl rfl rfl (jo_append el_51 rfl rfl rfl rfl (by omega)) fun b56 => ?_
        refine JL_pd rfl (det_assign rfl) ?_
        refine JL_nil ?_
        -- stop: end
        refine JE_weak (R' := KAnd (KSLs [sp, ⟨a, cap, plan⟩]) _) stsub_refl hsub_refl (fun w h => ⟨fun s hs => ?_, h⟩) ?_
        · rcases List.mem_cons.1 hs with rfl | hs
          · exact hspk w (Knows.know w h)
          · rw [List.mem_singleton.1 hs]; exact Knows.know (F := KSl a plan.length cap encI plan) w h
        exact JE_cutK hK (.slice (some ⟨b56.1, 0, none⟩) (1 + 1) b56.2, [sp, ⟨a, cap, plan⟩]) ⟨by simp, fun s hs => by rcases List.mem_cons.1 hs with rfl | hs; exact hspg; rw [List.mem_singleton.1 hs]; exact hg2⟩ (stsub_cons rfl stsub_nil) (ht_ow rfl (by show _ = encSL sp ++ (encSL _ ++ []); rw [hspl]; rfl) ht_nil)
      · refine JC_skip ?_
        -- stop: end
        refine JE_weak (R' := KAnd (KSLs [sp]) _) stsub_refl hsub_refl (fun w h => ⟨fun s hs => ?_, h⟩) ?_
        · rw [List.mem_singleton.1 hs]; exact hspk w (Knows.know w h)
        exact JE_cutK hK (.slice (some ⟨b45, 0, none⟩) 1 1, [sp]) ⟨by simp, fun s hs => by rw [List.mem_singleton.1 hs]; exact hspg⟩ (stsub_cons rfl stsub_nil) (ht_ow rfl (by simp [hspl]) ht_nil)
    obtain ⟨v, ps⟩ := q
    obtain ⟨hps2, hps⟩ := hq
    dsimp only [List.cons_append, List.nil_append] at hps hps2 ⊢
    refine JC_slice (enc := encSL) (v := v) ps noFp rfl rfl ?_
    rintro va vc rfl
    refine JC_seq ?_
    refine JC_region ?_
    refine JL_pd rfl (det_assign rfl) ?_
    refine JL_nil ?_
    refine JE_seq ?_
    refine JC_seq ?_
    refine JC_seq ?_
    refine JC_region ?_
    refine JL_pd rfl (det_assign rfl) ?_
    refine JL_nil ?_
    refine JE_seq ?_
    refine JC_block ?_
    -- stop: loop
    refine JC_nil 3 1 ?_
    refine JC_loopF (γ := Nat × Value × List Int) (fun q => q.1 ≤ xs.length ∧ q.2.2.length = q.1 ∧ ∀ m (hm : m < xs.length), m < q.1 → xs[m].g.lo ≤ q.2.2.getD m 0 ∧ q.2.2.getD m 0 ≤ xs[m].g.hi) (fun q => [(13, I q.1), (12, q.2.1)]) (fun q => [ow q.2.1 3 1 q.2.2.length (q.2.2.flatMap encI)]) (fun q => xs.length - q.1) (0, .slice none 0 0, []) ⟨Nat.zero_le _, rfl, fun m _ h => by omega⟩ (stsub_consI rfl rfl (stsub_cons rfl stsub_nil)) (ht_ow rfl rfl ht_nil) ?_
    rintro ⟨i, v, ls⟩ ⟨hi, hll, hls⟩ K hK
    dsimp only [List.cons_append, List.nil_append] at hi hll hls ⊢
    refine JC_seq ?_
    refine JC_seq ?_
    refine JC_region ?_
    refine JL_pd rfl (det_move rfl) ?_
    refine JL_pd rfl (det_move rfl) ?_
    refine JL_pd rfl (det_len rfl Try.runUnderlying25) ?_
    refine JL_pd rfl (det_lss rfl rfl) ?_
    refine JL_nil ?_
    refine JE_seq ?_
    -- stop: cond
    refine JC_if rfl (fun h3 => ?_) (fun h3 => ?_)
    · have hi2 : i < xs.length := by omega
      have hv := hVg i hi2
      have v1 := hv.f0
      have v2 := hv.fl
      have v3 := hv.lh
      have v4 := hv.h1
      have hwb := word_bd hw i
      have hr0 : 0 ≤ (wordV ws i).tmod (xs[i].g.hi - xs[i].g.lo + 1) := Int.tmod_nonneg _ hwb.1
      have hr1 : (wordV ws i).tmod (xs[i].g.hi - xs[i].g.lo + 1) < xs[i].g.hi - xs[i].g.lo + 1 := Int.tmod_lt_of_pos _ (by omega)
      refine JC_skip ?_
      refine JE_seq ?_
      refine JC_seq ?_
      refine JC_block ?_
      refine JC_draw [27] (by kernel_rfl) ?_
      refine JA_pd (i := 0) rfl (by kernel_rfl) rfl rfl (det_move rfl) ?_
      refine JA_pd (i := 1) rfl (by kernel_rfl) rfl rfl (det_move rfl) ?_
      refine JA_pd (i := 2) rfl (by kernel_rfl) rfl rfl (det_move rfl) ?_
      refine JA_dt (i := 3) rfl (by kernel_rfl) (by kernel_rfl) rfl rfl (det_indexAddr rfl rfl (by first | rfl | omega) (by first | assumption | omega | decide) Try.runUnderlying25 Try.sizeOf55) ?_
      refine JA_pd (i := 4) rfl (by kernel_rfl) rfl rfl (det_fieldAddrE rfl fo_55_1) ?_
      refine JA_pd (i := 5) rfl (by kernel_rfl) rfl rfl (det_fieldAddrEk (k2 := 1) rfl fo_53_0 rfl) ?_
      refine JA_dt (i := 6) rfl (by kernel_rfl) (by kernel_rfl) rfl rfl (det_loadEk rfl (by first | assumption | omega | decide) Try.isAgg3 rfl rfl) ?_
      refine JA_pd (i := 7) rfl (by kernel_rfl) rfl rfl (det_move rfl) ?_
      refine JA_pd (i := 8) rfl (by kernel_rfl) rfl rfl (det_move rfl) ?_
      refine JA_pd (i := 10) rfl (by kernel_rfl) rfl rfl (det_move rfl) ?_
      refine JA_pd (i := 11) rfl (by kernel_rfl) rfl rfl (det_move rfl) ?_
      refine JA_dt (i := 12) rfl (by kernel_rfl) (by kernel_rfl) rfl rfl (det_indexAddr rfl rfl (by first | rfl | omega) (by first | assumption | omega | decide) Try.runUnderlying25 Try.sizeOf55) ?_
      refine JA_pd (i := 13) rfl (by kernel_rfl) rfl rfl (det_fieldAddrE rfl fo_55_1) ?_
      refine JA_pd (i := 14) rfl (by kernel_rfl) rfl rfl (det_fieldAddrEk (k2 := 2) rfl fo_53_1 rfl) ?_
      refine JA_dt (i := 15) rfl (by kernel_rfl) (by kernel_rfl) rfl rfl (det_loadEk rfl (by first | assumption | omega | decide) Try.isAgg3 rfl rfl) ?_
      refine JA_pd (i := 16) rfl (by kernel_rfl) rfl rfl (det_move rfl) ?_
      refine JA_pd (i := 17) rfl (by kernel_rfl) rfl rfl (det_move rfl) ?_
      refine JA_dt (i := 18) rfl (by kernel_rfl) (by kernel_rfl) rfl rfl (det_indexAddr rfl rfl (by first | rfl | omega) (by first | assumption | omega | decide) Try.runUnderlying25 Try.sizeOf55) ?_
      refine JA_pd (i := 19) rfl (by kernel_rfl) rfl rfl (det_fieldAddrE rfl fo_55_1) ?_
      refine JA_pd (i := 20) rfl (by kernel_rfl) rfl rfl (det_fieldAddrEk (k2 := 1) rfl fo_53_0 rfl) ?_
      refine JA_dt (i := 21) rfl (by kernel_rfl) (by kernel_rfl) rfl rfl (det_loadEk rfl (by first | assumption | omega | decide) Try.isAgg3 rfl rfl) ?_
      refine JA_pd (i := 22) rfl (by kernel_rfl) rfl rfl (det_sub rfl rfl ⟨by omega, by omega⟩) ?_
      refine JA_pd (i := 23) rfl (by kernel_rfl) rfl rfl (det_add rfl rfl ⟨by omega, by omega⟩) ?_
      refine JA_one (i := 9) (by kernel_rfl) rfl rfl (jo_callv rfl rfl Try.call34 rfl (word_j ws wa wc i hw)) (fun _ => ⟨hsub_refl, fun _ h => h⟩) fun _ => ?_
      refine JA_pd (i := 24) rfl (by kernel_rfl) rfl rfl (det_rem rfl rfl (by omega)) ?_
      refine JA_pd (i := 25) rfl (by kernel_rfl) rfl rfl (det_add rfl rfl ⟨by omega, by omega⟩) ?_
      refine JA_one (i := 26) (by kernel_rfl) rfl rfl (jo_buildSlice rfl (bsl_22_1_0 _)) (fun _ => ⟨hsub_drop 1 rfl, fun _ h => h⟩) fun b89 => ?_
      refine JA_tail (i := 27) (by kernel_rfl) rfl rfl rfl rfl (jo_append el_22 rfl rfl rfl rfl (by omega)) fun b90 => ?_
      refine JT_pd (i := 28) rfl (by kernel_rfl) rfl rfl (det_assign rfl) ?_
      refine JT_done (by kernel_rfl) ?_
      refine JE_block ?_
      refine JE_seq ?_
      refine JC_region ?_
      refine JL_pd rfl (det_move rfl) ?_
      refine JL_pd rfl (det_add rfl rfl ⟨by omega, by omega⟩) ?_
      refine JL_pd rfl (det_assign rfl) ?_
      refine JL_nil ?_
      -- stop: end
      refine JE_roundF hK (i + 1, .slice (some ⟨b90.1, 0, none⟩) (ls.length + 1) b90.2, ls ++ [xs[i].g.lo + (wordV ws i).tmod (xs[i].g.hi - xs[i].g.lo + 1)]) ⟨by simp only; omega, by simp [hll], fun m hm hmi => ?_⟩ (by simp only; omega) (stsub_consI rfl (by simp only; omega) (stsub_cons rfl stsub_nil)) (ht_ow (by simp) (by simp [encI]) ht_nil)
      simp only at hmi ⊢
      by_cases e : m = i
      · subst e
        rw [getD_snoc_eq hll]
        omega
      · rw [getD_snoc_lt (by omega)]; exact hls m hm (by omega)
    · obtain rfl : i = xs.length := by omega
      refine JC_slice (enc := encI) (v := v) ls noFp rfl rfl ?_
      rintro la lc rfl
      refine JC_exit ?_
      refine JE_seq_exit ?_
      refine JE_then_exit ?_
      refine JE_block_here ?_
      refine JE_seq ?_
      refine JC_seq ?_
      refine JC_seq ?_
      refine JC_region ?_
      refine JL_pd rfl (det_assign rfl) ?_
      refine JL_nil ?_
      refine JE_seq ?_
      refine JC_block ?_
      -- stop: loop
      refine JC_loopF (γ := Nat) (fun m => m ≤ ps.length) (fun m => [(14, I m)]) (fun _ => []) (fun m => ps.length - m) 0 (Nat.zero_le _) (stsub_consI rfl rfl stsub_nil) ht_nil ?_
      intro m hm K1 hK1
      dsimp only [List.cons_append, List.nil_append]
      refine JC_seq ?_
      refine JC_seq ?_
      refine JC_region ?_
      refine JL_pd rfl (det_move rfl) ?_
      refine JL_pd rfl (det_move rfl) ?_
      refine JL_pd rfl (det_len rfl Try.runUnderlying51) ?_
      refine JL_pd rfl (det_lss rfl rfl) ?_
      refine JL_nil ?_
      refine JE_seq ?_
      -- stop: cond
      refine JC_if rfl (fun h4 => ?_) (fun h4 => ?_)
      · have hm2 : m < ps.length := by omega
        have hG := hps _ (List.getElem_mem hm2)
        have hGn : ps[m].l.length = xs.length := by rw [hG.n, hgl]
        refine JC_know (R' := KAnd (KSl ps[m].a ps[m].l.length ps[m].c encI ps[m].l) _) (fun w h => ⟨(Knows.know (F := KSLs ps) w h) _ (List.getElem_mem hm2), h⟩) ?_
        refine JC_skip ?_
        refine JE_seq ?_
        refine JC_seq ?_
        refine JC_block ?_
        refine JC_seq ?_
        refine JC_seq ?_
        refine JC_region ?_
        refine JL_pd rfl (det_move rfl) ?_
        refine JL_pd rfl (det_move rfl) ?_
        refine JL_dt rfl (det_indexAddr rfl rfl (by first | rfl | omega) (by first | assumption | omega | decide) Try.runUnderlying51 Try.sizeOf22) ?_
        refine JL_dt rfl (det_loadE rfl (by first | assumption | omega | decide) Try.isAgg22 rfl rfl) ?_
        refine JL_pd rfl (det_len rfl Try.runUnderlying22) ?_
        refine JL_pd rfl (det_move rfl) ?_
        refine JL_pd rfl (det_len rfl Try.runUnderlying25) ?_
        refine JL_pd rfl (det_neq rfl rfl) ?_
        refine JL_nil ?_
        refine JE_seq ?_
        -- stop: cond
        refine JC_ifn rfl (fun k3 => ?_) (fun k3 => ?_)
        · exact absurd (by omega) k3
        refine JC_skip ?_
        refine JE_seq ?_
        refine JC_seq ?_
        refine JC_region ?_
        refine JL_pd rfl (det_assign rfl) ?_
        refine JL_nil ?_
        refine JE_seq ?_
        refine JC_block ?_
        -- stop: loop
        refine JC_loopF (γ := Nat) (fun i => i ≤ xs.length) (fun i => [(15, I i)]) (fun _ => []) (fun i => xs.length - i) 0 (Nat.zero_le _) (stsub_consI rfl rfl stsub_nil) ht_nil ?_
        intro i hi K2 hK2
        dsimp only [List.cons_append, List.nil_append]
        refine JC_seq ?_
        refine JC_seq ?_
        refine JC_region ?_
        refine JL_pd rfl (det_move rfl) ?_
        refine JL_pd rfl (det_move rfl) ?_
        refine JL_pd rfl (det_len rfl Try.runUnderlying25) ?_
        refine JL_pd rfl (det_lss rfl rfl) ?_
        refine JL_nil ?_
        refine JE_seq ?_
        -- stop: cond
        refine JC_if rfl (fun h5 => ?_) (fun h5 => ?_)
        · have hi2 : i < xs.length := by omega
          have hil : i < ls.length := by omega
          have hip : i < ps[m].l.length := by omega
          have hlane := hG.lane _ (List.getElem_mem hip)
          refine JC_skip ?_
          refine JE_seq ?_
          refine JC_seq ?_
          refine JC_block ?_
          refine JC_seq ?_
          refine JC_seq ?_
          refine JC_draw [] (by kernel_rfl) ?_
          refine JA_pd (i := 0) rfl (by kernel_rfl) rfl rfl (det_move rfl) ?_
          refine JA_pd (i := 1) rfl (by kernel_rfl) rfl rfl (det_move rfl) ?_
          refine JA_dt (i := 2) rfl (by kernel_rfl) (by kernel_rfl) rfl rfl (det_indexAddr rfl rfl rfl hm2 Try.runUnderlying51 Try.sizeOf22) ?_
          refine JA_dt (i := 3) rfl (by kernel_rfl) (by kernel_rfl) rfl rfl (det_loadE rfl hm2 Try.isAgg22 rfl rfl) ?_
          refine JA_pd (i := 4) rfl (by kernel_rfl) rfl rfl (det_move rfl) ?_
          refine JA_dt (i := 5) rfl (by kernel_rfl) (by kernel_rfl) rfl rfl (det_indexAddr rfl rfl (by first | rfl | omega) (by first | assumption | omega | decide) Try.runUnderlying22 Try.sizeOf3) ?_
          refine JA_dt (i := 6) rfl (by kernel_rfl) (by kernel_rfl) rfl rfl (det_loadE rfl (by first | assumption | omega | decide) Try.isAgg3 rfl rfl) ?_
          refine JA_pd (i := 7) rfl (by kernel_rfl) rfl rfl (det_lss rfl rfl) ?_
          refine JA_pd (i := 8) rfl (by kernel_rfl) rfl rfl (det_move rfl) ?_
          -- stop: guard 8
          refine JA_is (d0 := 119) false rfl (by exact decide_eq_false (by omega)) (fun g1 => ?_)
          refine JA_gpd (i := 9) rfl (by kernel_rfl) rfl rfl rfl rfl g1 (det_move rfl) ?_
          refine JA_gpd (i := 10) rfl (by kernel_rfl) rfl rfl rfl rfl g1 (det_move rfl) ?_
          refine JA_gdt (i := 11) rfl (by kernel_rfl) (by kernel_rfl) rfl rfl rfl rfl g1 (det_indexAddr rfl rfl rfl hm2 Try.runUnderlying51 Try.sizeOf22) ?_
          refine JA_gdt (i := 12) rfl (by kernel_rfl) (by kernel_rfl) rfl rfl rfl rfl g1 (det_loadE rfl hm2 Try.isAgg22 rfl rfl) ?_
          refine JA_gpd (i := 13) rfl (by kernel_rfl) rfl rfl rfl rfl g1 (det_move rfl) ?_
          refine JA_gdt (i := 14) rfl (by kernel_rfl) (by kernel_rfl) rfl rfl rfl rfl g1 (det_indexAddr rfl rfl (by first | rfl | omega) (by first | assumption | omega | decide) Try.runUnderlying22 Try.sizeOf3) ?_
          refine JA_gdt (i := 15) rfl (by kernel_rfl) (by kernel_rfl) rfl rfl rfl rfl g1 (det_loadE rfl (by first | assumption | omega | decide) Try.isAgg3 rfl rfl) ?_
          refine JA_gpd (i := 16) rfl (by kernel_rfl) rfl rfl rfl rfl g1 (det_fieldAddr rfl fo_24_0) ?_
          refine JA_gdt (i := 17) rfl (by kernel_rfl) (by kernel_rfl) rfl rfl rfl rfl g1 (det_loadK rfl Try.isAgg3 rfl) ?_
          refine JA_gpd (i := 18) rfl (by kernel_rfl) rfl rfl rfl rfl g1 (det_geq rfl rfl) ?_
          refine JA_pd (i := 19) rfl (by kernel_rfl) rfl rfl (det_pick_f rfl g1 rfl) ?_
          refine JA_done (by kernel_rfl) ?_
          refine JE_seq ?_
          -- stop: cond
          refine JC_cond rfl (fun k4 => ?_) (fun k4 => ?_)
          · exact absurd k4 (by simp; omega)
          refine JC_skip ?_
          refine JE_seq ?_
          refine JC_seq ?_
          refine JC_region ?_
          refine JL_pd rfl (det_assign rfl) ?_
          refine JL_nil ?_
          refine JE_seq ?_
          refine JC_block ?_
          -- stop: loop
          refine JC_loopF (γ := Nat) (fun k => k ≤ i) (fun k => [(16, I k)]) (fun _ => []) (fun k => i - k) 0 (Nat.zero_le _) (stsub_consI rfl rfl stsub_nil) ht_nil ?_
          intro k hk K3 hK3
          dsimp only [List.cons_append, List.nil_append]
          refine JC_seq ?_
          refine JC_seq ?_
          refine JC_region ?_
          refine JL_pd rfl (det_move rfl) ?_
          refine JL_pd rfl (det_move rfl) ?_
          refine JL_pd rfl (det_lss rfl rfl) ?_
          refine JL_nil ?_
          refine JE_seq ?_
          -- stop: cond
          refine JC_if rfl (fun h6 => ?_) (fun h6 => ?_)
          · have hki : k < i := by omega
            have hk2 : k < xs.length := by omega
            have hkl : k < ls.length := by omega
            have hkp : k < ps[m].l.length := by omega
            have hz : ¬ (0 ≤ ps[m].l[i] ∧ ps[m].l[i] = ps[m].l[k] ∧ xs[i].g.fr ≤ ls[k] ∧ xs[k].g.fr ≤ ls[i]) := by
              rintro ⟨q1, q2, q3, q4⟩
              have hlk := (hls k hk2 hk2).2
              have hli := (hls i hi2 hi2).2
              rw [getD_get hkl] at hlk
              rw [getD_get hil] at hli
              have hzl : ((gs xs).zip ps[m].l).length = xs.length := by rw [List.length_zip, hgl]; omega
              have := List.pairwise_iff_getElem.1 hG.right k i (by omega) (by omega) hki
              rw [List.getElem_zip, List.getElem_zip, hgs k hk2, hgs i hi2] at this
              exact this ⟨by simp only; omega, q2.symm, by unfold ovl; simp only; omega⟩
            by_cases c2 : 0 ≤ ps[m].l[i]
            · by_cases c3 : ps[m].l[i] = ps[m].l[k]
              · by_cases c4 : xs[i].g.fr ≤ ls[k]
                · refine JC_skip ?_
                  refine JE_seq ?_
                  refine JC_seq ?_
                  refine JC_block ?_
                  refine JC_seq ?_
                  refine JC_draw [] (by kernel_rfl) ?_
                  refine JA_pd (i := 0) rfl (by kernel_rfl) rfl rfl (det_move rfl) ?_
                  refine JA_pd (i := 1) rfl (by kernel_rfl) rfl rfl (det_move rfl) ?_
                  refine JA_dt (i := 2) rfl (by kernel_rfl) (by kernel_rfl) rfl rfl (det_indexAddr rfl rfl rfl hm2 Try.runUnderlying51 Try.sizeOf22) ?_
                  refine JA_dt (i := 3) rfl (by kernel_rfl) (by kernel_rfl) rfl rfl (det_loadE rfl hm2 Try.isAgg22 rfl rfl) ?_
                  refine JA_pd (i := 4) rfl (by kernel_rfl) rfl rfl (det_move rfl) ?_
                  refine JA_dt (i := 5) rfl (by kernel_rfl) (by kernel_rfl) rfl rfl (det_indexAddr rfl rfl (by first | rfl | omega) (by first | assumption | omega | decide) Try.runUnderlying22 Try.sizeOf3) ?_
                  refine JA_dt (i := 6) rfl (by kernel_rfl) (by kernel_rfl) rfl rfl (det_loadE rfl (by first | assumption | omega | decide) Try.isAgg3 rfl rfl) ?_
                  refine JA_pd (i := 7) rfl (by kernel_rfl) rfl rfl (det_geq rfl rfl) ?_
                  refine JA_pd (i := 8) rfl (by kernel_rfl) rfl rfl (det_move rfl) ?_
                  -- stop: guard 8
                  refine JA_is (d0 := 144) true rfl (by exact decide_eq_true c2) (fun g1 => ?_)
                  refine JA_gpd (i := 9) rfl (by kernel_rfl) rfl rfl rfl rfl g1 (det_move rfl) ?_
                  refine JA_gpd (i := 10) rfl (by kernel_rfl) rfl rfl rfl rfl g1 (det_move rfl) ?_
                  refine JA_gdt (i := 11) rfl (by kernel_rfl) (by kernel_rfl) rfl rfl rfl rfl g1 (det_indexAddr rfl rfl rfl hm2 Try.runUnderlying51 Try.sizeOf22) ?_
                  refine JA_gdt (i := 12) rfl (by kernel_rfl) (by kernel_rfl) rfl rfl rfl rfl g1 (det_loadE rfl hm2 Try.isAgg22 rfl rfl) ?_
                  refine JA_gpd (i := 13) rfl (by kernel_rfl) rfl rfl rfl rfl g1 (det_move rfl) ?_
                  refine JA_gdt (i := 14) rfl (by kernel_rfl) (by kernel_rfl) rfl rfl rfl rfl g1 (det_indexAddr rfl rfl (by first | rfl | omega) (by first | assumption | omega | decide) Try.runUnderlying22 Try.sizeOf3) ?_
                  refine JA_gdt (i := 15) rfl (by kernel_rfl) (by kernel_rfl) rfl rfl rfl rfl g1 (det_loadE rfl (by first | assumption | omega | decide) Try.isAgg3 rfl rfl) ?_
                  refine JA_gpd (i := 16) rfl (by kernel_rfl) rfl rfl rfl rfl g1 (det_move rfl) ?_
                  refine JA_gpd (i := 17) rfl (by kernel_rfl) rfl rfl rfl rfl g1 (det_move rfl) ?_
                  refine JA_gdt (i := 18) rfl (by kernel_rfl) (by kernel_rfl) rfl rfl rfl rfl g1 (det_indexAddr rfl rfl rfl hm2 Try.runUnderlying51 Try.sizeOf22) ?_
                  refine JA_gdt (i := 19) rfl (by kernel_rfl) (by kernel_rfl) rfl rfl rfl rfl g1 (det_loadE rfl hm2 Try.isAgg22 rfl rfl) ?_
                  refine JA_gpd (i := 20) rfl (by kernel_rfl) rfl rfl rfl rfl g1 (det_move rfl) ?_
                  refine JA_gdt (i := 21) rfl (by kernel_rfl) (by kernel_rfl) rfl rfl rfl rfl g1 (det_indexAddr rfl rfl (by first | rfl | omega) (by first | assumption | omega | decide) Try.runUnderlying22 Try.sizeOf3) ?_
                  refine JA_gdt (i := 22) rfl (by kernel_rfl) (by kernel_rfl) rfl rfl rfl rfl g1 (det_loadE rfl (by first | assumption | omega | decide) Try.isAgg3 rfl rfl) ?_
                  refine JA_gpd (i := 23) rfl (by kernel_rfl) rfl rfl rfl rfl g1 (det_eql rfl rfl) ?_
                  refine JA_pd (i := 24) rfl (by kernel_rfl) rfl rfl (det_pick_t rfl g1 rfl) ?_
                  refine JA_pd (i := 25) rfl (by kernel_rfl) rfl rfl (det_move rfl) ?_
                  -- stop: guard 25
                  refine JA_is (d0 := 161) true rfl (by exact decide_eq_true c3) (fun g2 => ?_)
                  refine JA_gpd (i := 26) rfl (by kernel_rfl) rfl rfl rfl rfl g2 (det_move rfl) ?_
                  refine JA_gpd (i := 27) rfl (by kernel_rfl) rfl rfl rfl rfl g2 (det_move rfl) ?_
                  refine JA_gdt (i := 28) rfl (by kernel_rfl) (by kernel_rfl) rfl rfl rfl rfl g2 (det_indexAddr rfl rfl (by first | rfl | omega) (by first | assumption | omega | decide) Try.runUnderlying25 Try.sizeOf55) ?_
                  refine JA_gpd (i := 29) rfl (by kernel_rfl) rfl rfl rfl rfl g2 (det_fieldAddrE rfl fo_55_0) ?_
                  refine JA_gdt (i := 30) rfl (by kernel_rfl) (by kernel_rfl) rfl rfl rfl rfl g2 (det_loadEk rfl (by first | assumption | omega | decide) Try.isAgg3 rfl rfl) ?_
                  refine JA_gpd (i := 31) rfl (by kernel_rfl) rfl rfl rfl rfl g2 (det_move rfl) ?_
                  refine JA_gpd (i := 32) rfl (by kernel_rfl) rfl rfl rfl rfl g2 (det_move rfl) ?_
                  refine JA_gdt (i := 33) rfl (by kernel_rfl) (by kernel_rfl) rfl rfl rfl rfl g2 (det_indexAddr rfl rfl (by first | rfl | omega) (by first | assumption | omega | decide) Try.runUnderlying22 Try.sizeOf3) ?_
                  refine JA_gdt (i := 34) rfl (by kernel_rfl) (by kernel_rfl) rfl rfl rfl rfl g2 (det_loadE rfl (by first | assumption | omega | decide) Try.isAgg3 rfl rfl) ?_
                  refine JA_gpd (i := 35) rfl (by kernel_rfl) rfl rfl rfl rfl g2 (det_leq rfl rfl) ?_
                  refine JA_pd (i := 36) rfl (by kernel_rfl) rfl rfl (det_pick_t rfl g2 rfl) ?_
                  refine JA_pd (i := 37) rfl (by kernel_rfl) rfl rfl (det_move rfl) ?_
                  -- stop: guard 37
                  refine JA_is (d0 := 173) true rfl (by exact decide_eq_true c4) (fun g3 => ?_)
                  refine JA_gpd (i := 38) rfl (by kernel_rfl) rfl rfl rfl rfl g3 (det_move rfl) ?_
                  refine JA_gpd (i := 39) rfl (by kernel_rfl) rfl rfl rfl rfl g3 (det_move rfl) ?_
                  refine JA_gdt (i := 40) rfl (by kernel_rfl) (by kernel_rfl) rfl rfl rfl rfl g3 (det_indexAddr rfl rfl (by first | rfl | omega) (by first | assumption | omega | decide) Try.runUnderlying25 Try.sizeOf55) ?_
                  refine JA_gpd (i := 41) rfl (by kernel_rfl) rfl rfl rfl rfl g3 (det_fieldAddrE rfl fo_55_0) ?_
                  refine JA_gdt (i := 42) rfl (by kernel_rfl) (by kernel_rfl) rfl rfl rfl rfl g3 (det_loadEk rfl (by first | assumption | omega | decide) Try.isAgg3 rfl rfl) ?_
                  refine JA_gpd (i := 43) rfl (by kernel_rfl) rfl rfl rfl rfl g3 (det_move rfl) ?_
                  refine JA_gpd (i := 44) rfl (by kernel_rfl) rfl rfl rfl rfl g3 (det_move rfl) ?_
                  refine JA_gdt (i := 45) rfl (by kernel_rfl) (by kernel_rfl) rfl rfl rfl rfl g3 (det_indexAddr rfl rfl (by first | rfl | omega) (by first | assumption | omega | decide) Try.runUnderlying22 Try.sizeOf3) ?_
                  refine JA_gdt (i := 46) rfl (by kernel_rfl) (by kernel_rfl) rfl rfl rfl rfl g3 (det_loadE rfl (by first | assumption | omega | decide) Try.isAgg3 rfl rfl) ?_
                  refine JA_gpd (i := 47) rfl (by kernel_rfl) rfl rfl rfl rfl g3 (det_leq rfl rfl) ?_
                  refine JA_pd (i := 48) rfl (by kernel_rfl) rfl rfl (det_pick_t rfl g3 rfl) ?_
                  refine JA_done (by kernel_rfl) ?_
                  refine JE_seq ?_
                  -- stop: cond
                  refine JC_cond rfl (fun k5 => ?_) (fun k5 => ?_)
                  · exact absurd ⟨c2, c3, c4, of_decide_eq_true k5⟩ hz
                  refine JC_skip ?_
                  refine JE_block ?_
                  refine JE_seq ?_
                  refine JC_region ?_
                  refine JL_pd rfl (det_move rfl) ?_
                  refine JL_pd rfl (det_add rfl rfl ⟨by omega, by omega⟩) ?_
                  refine JL_pd rfl (det_assign rfl) ?_
                  refine JL_nil ?_
                  -- stop: end
                  refine JE_roundF hK3 (k + 1) (by omega) (by omega) (stsub_consI rfl (by omega) stsub_nil) ht_nil
                · refine JC_skip ?_
                  refine JE_seq ?_
                  refine JC_seq ?_
                  refine JC_block ?_
                  refine JC_seq ?_
                  refine JC_draw [] (by kernel_rfl) ?_
                  refine JA_pd (i := 0) rfl (by kernel_rfl) rfl rfl (det_move rfl) ?_
                  refine JA_pd (i := 1) rfl (by kernel_rfl) rfl rfl (det_move rfl) ?_
                  refine JA_dt (i := 2) rfl (by kernel_rfl) (by kernel_rfl) rfl rfl (det_indexAddr rfl rfl rfl hm2 Try.runUnderlying51 Try.sizeOf22) ?_
                  refine JA_dt (i := 3) rfl (by kernel_rfl) (by kernel_rfl) rfl rfl (det_loadE rfl hm2 Try.isAgg22 rfl rfl) ?_
                  refine JA_pd (i := 4) rfl (by kernel_rfl) rfl rfl (det_move rfl) ?_
                  refine JA_dt (i := 5) rfl (by kernel_rfl) (by kernel_rfl) rfl rfl (det_indexAddr rfl rfl (by first | rfl | omega) (by first | assumption | omega | decide) Try.runUnderlying22 Try.sizeOf3) ?_
                  refine JA_dt (i := 6) rfl (by kernel_rfl) (by kernel_rfl) rfl rfl (det_loadE rfl (by first | assumption | omega | decide) Try.isAgg3 rfl rfl) ?_
                  refine JA_pd (i := 7) rfl (by kernel_rfl) rfl rfl (det_geq rfl rfl) ?_
                  refine JA_pd (i := 8) rfl (by kernel_rfl) rfl rfl (det_move rfl) ?_
                  -- stop: guard 8
                  refine JA_is (d0 := 144) true rfl (by exact decide_eq_true c2) (fun g1 => ?_)
                  refine JA_gpd (i := 9) rfl (by kernel_rfl) rfl rfl rfl rfl g1 (det_move rfl) ?_
                  refine JA_gpd (i := 10) rfl (by kernel_rfl) rfl rfl rfl rfl g1 (det_move rfl) ?_
                  refine JA_gdt (i := 11) rfl (by kernel_rfl) (by kernel_rfl) rfl rfl rfl rfl g1 (det_indexAddr rfl rfl rfl hm2 Try.runUnderlying51 Try.sizeOf22) ?_
                  refine JA_gdt (i := 12) rfl (by kernel_rfl) (by kernel_rfl) rfl rfl rfl rfl g1 (det_loadE rfl hm2 Try.isAgg22 rfl rfl) ?_
                  refine JA_gpd (i := 13) rfl (by kernel_rfl) rfl rfl rfl rfl g1 (det_move rfl) ?_
                  refine JA_gdt (i := 14) rfl (by kernel_rfl) (by kernel_rfl) rfl rfl rfl rfl g1 (det_indexAddr rfl rfl (by first | rfl | omega) (by first | assumption | omega | decide) Try.runUnderlying22 Try.sizeOf3) ?_
                  refine JA_gdt (i := 15) rfl (by kernel_rfl) (by kernel_rfl) rfl rfl rfl rfl g1 (det_loadE rfl (by first | assumption | omega | decide) Try.isAgg3 rfl rfl) ?_
                  refine JA_gpd (i := 16) rfl (by kernel_rfl) rfl rfl rfl rfl g1 (det_move rfl) ?_
                  refine JA_gpd (i := 17) rfl (by kernel_rfl) rfl rfl rfl rfl g1 (det_move rfl) ?_
                  refine JA_gdt (i := 18) rfl (by kernel_rfl) (by kernel_rfl) rfl rfl rfl rfl g1 (det_indexAddr rfl rfl rfl hm2 Try.runUnderlying51 Try.sizeOf22) ?_
                  refine JA_gdt (i := 19) rfl (by kernel_rfl) (by kernel_rfl) rfl rfl rfl rfl g1 (det_loadE rfl hm2 Try.isAgg22 rfl rfl) ?_
                  refine JA_gpd (i := 20) rfl (by kernel_rfl) rfl rfl rfl rfl g1 (det_move rfl) ?_
                  refine JA_gdt (i := 21) rfl (by kernel_rfl) (by kernel_rfl) rfl rfl rfl rfl g1 (det_indexAddr rfl rfl (by first | rfl | omega) (by first | assumption | omega | decide) Try.runUnderlying22 Try.sizeOf3) ?_
                  refine JA_gdt (i := 22) rfl (by kernel_rfl) (by kernel_rfl) rfl rfl rfl rfl g1 (det_loadE rfl (by first | assumption | omega | decide) Try.isAgg3 rfl rfl) ?_
                  refine JA_gpd (i := 23) rfl (by kernel_rfl) rfl rfl rfl rfl g1 (det_eql rfl rfl) ?_
                  refine JA_pd (i := 24) rfl (by kernel_rfl) rfl rfl (det_pick_t rfl g1 rfl) ?_
                  refine JA_pd (i := 25) rfl (by kernel_rfl) rfl rfl (det_move rfl) ?_
                  -- stop: guard 25
                  refine JA_is (d0 := 161) true rfl (by exact decide_eq_true c3) (fun g2 => ?_)
                  refine JA_gpd (i := 26) rfl (by kernel_rfl) rfl rfl rfl rfl g2 (det_move rfl) ?_
                  refine JA_gpd (i := 27) rfl (by kernel_rfl) rfl rfl rfl rfl g2 (det_move rfl) ?_
                  refine JA_gdt (i := 28) rfl (by kernel_rfl) (by kernel_rfl) rfl rfl rfl rfl g2 (det_indexAddr rfl rfl (by first | rfl | omega) (by first | assumption | omega | decide) Try.runUnderlying25 Try.sizeOf55) ?_
                  refine JA_gpd (i := 29) rfl (by kernel_rfl) rfl rfl rfl rfl g2 (det_fieldAddrE rfl fo_55_0) ?_
                  refine JA_gdt (i := 30) rfl (by kernel_rfl) (by kernel_rfl) rfl rfl rfl rfl g2 (det_loadEk rfl (by first | assumption | omega | decide) Try.isAgg3 rfl rfl) ?_
                  refine JA_gpd (i := 31) rfl (by kernel_rfl) rfl rfl rfl rfl g2 (det_move rfl) ?_
                  refine JA_gpd (i := 32) rfl (by kernel_rfl) rfl rfl rfl rfl g2 (det_move rfl) ?_
                  refine JA_gdt (i := 33) rfl (by kernel_rfl) (by kernel_rfl) rfl rfl rfl rfl g2 (det_indexAddr rfl rfl (by first | rfl | omega) (by first | assumption | omega | decide) Try.runUnderlying22 Try.sizeOf3) ?_
                  refine JA_gdt (i := 34) rfl (by kernel_rfl) (by kernel_rfl) rfl rfl rfl rfl g2 (det_loadE rfl (by first | assumption | omega | decide) Try.isAgg3 rfl rfl) ?_
                  refine JA_gpd (i := 35) rfl (by kernel_rfl) rfl rfl rfl rfl g2 (det_leq rfl rfl) ?_
                  refine JA_pd (i := 36) rfl (by kernel_rfl) rfl rfl (det_pick_t rfl g2 rfl) ?_
                  refine JA_pd (i := 37) rfl (by kernel_rfl) rfl rfl (det_move rfl) ?_
                  -- stop: guard 37
                  refine JA_is (d0 := 173) false rfl (by exact decide_eq_false c4) (fun g3 => ?_)
                  refine JA_skip (i := 38) rfl (by kernel_rfl) rfl rfl rfl rfl g3 ?_
                  refine JA_skip (i := 39) rfl (by kernel_rfl) rfl rfl rfl rfl g3 ?_
                  refine JA_skip (i := 40) rfl (by kernel_rfl) rfl rfl rfl rfl g3 ?_
                  refine JA_skip (i := 41) rfl (by kernel_rfl) rfl rfl rfl rfl g3 ?_
                  refine JA_skip (i := 42) rfl (by kernel_rfl) rfl rfl rfl rfl g3 ?_
                  refine JA_skip (i := 43) rfl (by kernel_rfl) rfl rfl rfl rfl g3 ?_
                  refine JA_skip (i := 44) rfl (by kernel_rfl) rfl rfl rfl rfl g3 ?_
                  refine JA_skip (i := 45) rfl (by kernel_rfl) rfl rfl rfl rfl g3 ?_
                  refine JA_skip (i := 46) rfl (by kernel_rfl) rfl rfl rfl rfl g3 ?_
                  refine JA_skip (i := 47) rfl (by kernel_rfl) rfl rfl rfl rfl g3 ?_
                  refine JA_pd (i := 48) rfl (by kernel_rfl) rfl rfl (det_pick_f rfl g3 rfl) ?_
                  refine JA_done (by kernel_rfl) ?_
                  refine JE_seq ?_
                  refine JC_condF rfl rfl ?_
                  refine JC_skip ?_
                  refine JE_block ?_
                  refine JE_seq ?_
                  refine JC_region ?_
                  refine JL_pd rfl (det_move rfl) ?_
                  refine JL_pd rfl (det_add rfl rfl ⟨by omega, by omega⟩) ?_
                  refine JL_pd rfl (det_assign rfl) ?_
                  refine JL_nil ?_
                  -- stop: end
                  refine JE_roundF hK3 (k + 1) (by omega) (by omega) (stsub_consI rfl (by omega) stsub_nil) ht_nil
              · refine JC_skip ?_
                refine JE_seq ?_
                refine JC_seq ?_
                refine JC_block ?_
                refine JC_seq ?_
                refine JC_draw [] (by kernel_rfl) ?_
                refine JA_pd (i := 0) rfl (by kernel_rfl) rfl rfl (det_move rfl) ?_
                refine JA_pd (i := 1) rfl (by kernel_rfl) rfl rfl (det_move rfl) ?_
                refine JA_dt (i := 2) rfl (by kernel_rfl) (by kernel_rfl) rfl rfl (det_indexAddr rfl rfl rfl hm2 Try.runUnderlying51 Try.sizeOf22) ?_
                refine JA_dt (i := 3) rfl (by kernel_rfl) (by kernel_rfl) rfl rfl (det_loadE rfl hm2 Try.isAgg22 rfl rfl) ?_
                refine JA_pd (i := 4) rfl (by kernel_rfl) rfl rfl (det_move rfl) ?_
                refine JA_dt (i := 5) rfl (by kernel_rfl) (by kernel_rfl) rfl rfl (det_indexAddr rfl rfl (by first | rfl | omega) (by first | assumption | omega | decide) Try.runUnderlying22 Try.sizeOf3) ?_
                refine JA_dt (i := 6) rfl (by kernel_rfl) (by kernel_rfl) rfl rfl (det_loadE rfl (by first | assumption | omega | decide) Try.isAgg3 rfl rfl) ?_
                refine JA_pd (i := 7) rfl (by kernel_rfl) rfl rfl (det_geq rfl rfl) ?_
                refine JA_pd (i := 8) rfl (by kernel_rfl) rfl rfl (det_move rfl) ?_
                -- stop: guard 8
                refine JA_is (d0 := 144) true rfl (by exact decide_eq_true c2) (fun g1 => ?_)
                refine JA_gpd (i := 9) rfl (by kernel_rfl) rfl rfl rfl rfl g1 (det_move rfl) ?_
                refine JA_gpd (i := 10) rfl (by kernel_rfl) rfl rfl rfl rfl g1 (det_move rfl) ?_
                refine JA_gdt (i := 11) rfl (by kernel_rfl) (by kernel_rfl) rfl rfl rfl rfl g1 (det_indexAddr rfl rfl rfl hm2 Try.runUnderlying51 Try.sizeOf22) ?_
                refine JA_gdt (i := 12) rfl (by kernel_rfl) (by kernel_rfl) rfl rfl rfl rfl g1 (det_loadE rfl hm2 Try.isAgg22 rfl rfl) ?_
                refine JA_gpd (i := 13) rfl (by kernel_rfl) rfl rfl rfl rfl g1 (det_move rfl) ?_
                refine JA_gdt (i := 14) rfl (by kernel_rfl) (by kernel_rfl) rfl rfl rfl rfl g1 (det_indexAddr rfl rfl (by first | rfl | omega) (by first | assumption | omega | decide) Try.runUnderlying22 Try.sizeOf3) ?_
                refine JA_gdt (i := 15) rfl (by kernel_rfl) (by kernel_rfl) rfl rfl rfl rfl g1 (det_loadE rfl (by first | assumption | omega | decide) Try.isAgg3 rfl rfl) ?_
                refine JA_gpd (i := 16) rfl (by kernel_rfl) rfl rfl rfl rfl g1 (det_move rfl) ?_
                refine JA_gpd (i := 17) rfl (by kernel_rfl) rfl rfl rfl rfl g1 (det_move rfl) ?_
                refine JA_gdt (i := 18) rfl (by kernel_rfl) (by kernel_rfl) rfl rfl rfl rfl g1 (det_indexAddr rfl rfl rfl hm2 Try.runUnderlying51 Try.sizeOf22) ?_
                refine JA_gdt (i := 19) rfl (by kernel_rfl) (by kernel_rfl) rfl rfl rfl rfl g1 (det_loadE rfl hm2 Try.isAgg22 rfl rfl) ?_
                refine JA_gpd (i := 20) rfl (by kernel_rfl) rfl rfl rfl rfl g1 (det_move rfl) ?_
                refine JA_gdt (i := 21) rfl (by kernel_rfl) (by kernel_rfl) rfl rfl rfl rfl g1 (det_indexAddr rfl rfl (by first | rfl | omega) (by first | assumption | omega | decide) Try.runUnderlying22 Try.sizeOf3) ?_
                refine JA_gdt (i := 22) rfl (by kernel_rfl) (by kernel_rfl) rfl rfl rfl rfl g1 (det_loadE rfl (by first | assumption | omega | decide) Try.isAgg3 rfl rfl) ?_
                refine JA_gpd (i := 23) rfl (by kernel_rfl) rfl rfl rfl rfl g1 (det_eql rfl rfl) ?_
                refine JA_pd (i := 24) rfl (by kernel_rfl) rfl rfl (det_pick_t rfl g1 rfl) ?_
                refine JA_pd (i := 25) rfl (by kernel_rfl) rfl rfl (det_move rfl) ?_
                -- stop: guard 25
                refine JA_is (d0 := 161) false rfl (by exact decide_eq_false c3) (fun g2 => ?_)
                refine JA_skip (i := 26) rfl (by kernel_rfl) rfl rfl rfl rfl g2 ?_
                refine JA_skip (i := 27) rfl (by kernel_rfl) rfl rfl rfl rfl g2 ?_
                refine JA_skip (i := 28) rfl (by kernel_rfl) rfl rfl rfl rfl g2 ?_
                refine JA_skip (i := 29) rfl (by kernel_rfl) rfl rfl rfl rfl g2 ?_
                refine JA_skip (i := 30) rfl (by kernel_rfl) rfl rfl rfl rfl g2 ?_
                refine JA_skip (i := 31) rfl (by kernel_rfl) rfl rfl rfl rfl g2 ?_
                refine JA_skip (i := 32) rfl (by kernel_rfl) rfl rfl rfl rfl g2 ?_
                refine JA_skip (i := 33) rfl (by kernel_rfl) rfl rfl rfl rfl g2 ?_
                refine JA_skip (i := 34) rfl (by kernel_rfl) rfl rfl rfl rfl g2 ?_
                refine JA_skip (i := 35) rfl (by kernel_rfl) rfl rfl rfl rfl g2 ?_
                refine JA_pd (i := 36) rfl (by kernel_rfl) rfl rfl (det_pick_f rfl g2 rfl) ?_
                refine JA_pd (i := 37) rfl (by kernel_rfl) rfl rfl (det_move rfl) ?_
                refine JA_skip (i := 38) rfl (by kernel_rfl) rfl rfl rfl rfl rfl ?_
                refine JA_skip (i := 39) rfl (by kernel_rfl) rfl rfl rfl rfl rfl ?_
                refine JA_skip (i := 40) rfl (by kernel_rfl) rfl rfl rfl rfl rfl ?_
                refine JA_skip (i := 41) rfl (by kernel_rfl) rfl rfl rfl rfl rfl ?_
                refine JA_skip (i := 42) rfl (by kernel_rfl) rfl rfl rfl rfl rfl ?_
                refine JA_skip (i := 43) rfl (by kernel_rfl) rfl rfl rfl rfl rfl ?_
                refine JA_skip (i := 44) rfl (by kernel_rfl) rfl rfl rfl rfl rfl ?_
                refine JA_skip (i := 45) rfl (by kernel_rfl) rfl rfl rfl rfl rfl ?_
                refine JA_skip (i := 46) rfl (by kernel_rfl) rfl rfl rfl rfl rfl ?_
                refine JA_skip (i := 47) rfl (by kernel_rfl) rfl rfl rfl rfl rfl ?_
                refine JA_pd (i := 48) rfl (by kernel_rfl) rfl rfl (det_pick_f rfl rfl rfl) ?_
                refine JA_done (by kernel_rfl) ?_
                refine JE_seq ?_
                refine JC_condF rfl rfl ?_
                refine JC_skip ?_
                refine JE_block ?_
                refine JE_seq ?_
                refine JC_region ?_
                refine JL_pd rfl (det_move rfl) ?_
                refine JL_pd rfl (det_add rfl rfl ⟨by omega, by omega⟩) ?_
                refine JL_pd rfl (det_assign rfl) ?_
                refine JL_nil ?_
                -- stop: end
                refine JE_roundF hK3 (k + 1) (by omega) (by omega) (stsub_consI rfl (by omega) stsub_nil) ht_nil
            · refine JC_skip ?_
              refine JE_seq ?_
              refine JC_seq ?_
              refine JC_block ?_
              refine JC_seq ?_
              refine JC_draw [] (by kernel_rfl) ?_
              refine JA_pd (i := 0) rfl (by kernel_rfl) rfl rfl (det_move rfl) ?_
              refine JA_pd (i := 1) rfl (by kernel_rfl) rfl rfl (det_move rfl) ?_
              refine JA_dt (i := 2) rfl (by kernel_rfl) (by kernel_rfl) rfl rfl (det_indexAddr rfl rfl rfl hm2 Try.runUnderlying51 Try.sizeOf22) ?_
              refine JA_dt (i := 3) rfl (by kernel_rfl) (by kernel_rfl) rfl rfl (det_loadE rfl hm2 Try.isAgg22 rfl rfl) ?_
              refine JA_pd (i := 4) rfl (by kernel_rfl) rfl rfl (det_move rfl) ?_
              refine JA_dt (i := 5) rfl (by kernel_rfl) (by kernel_rfl) rfl rfl (det_indexAddr rfl rfl (by first | rfl | omega) (by first | assumption | omega | decide) Try.runUnderlying22 Try.sizeOf3) ?_
              refine JA_dt (i := 6) rfl (by kernel_rfl) (by kernel_rfl) rfl rfl (det_loadE rfl (by first | assumption | omega | decide) Try.isAgg3 rfl rfl) ?_
              refine JA_pd (i := 7) rfl (by kernel_rfl) rfl rfl (det_geq rfl rfl) ?_
              refine JA_pd (i := 8) rfl (by kernel_rfl) rfl rfl (det_move rfl) ?_
              -- stop: guard 8
              refine JA_is (d0 := 144) false rfl (by exact decide_eq_false c2) (fun g1 => ?_)
              refine JA_skip (i := 9) rfl (by kernel_rfl) rfl rfl rfl rfl g1 ?_
              refine JA_skip (i := 10) rfl (by kernel_rfl) rfl rfl rfl rfl g1 ?_
              refine JA_skip (i := 11) rfl (by kernel_rfl) rfl rfl rfl rfl g1 ?_
              refine JA_skip (i := 12) rfl (by kernel_rfl) rfl rfl rfl rfl g1 ?_
              refine JA_skip (i := 13) rfl (by kernel_rfl) rfl rfl rfl rfl g1 ?_
              refine JA_skip (i := 14) rfl (by kernel_rfl) rfl rfl rfl rfl g1 ?_
              refine JA_skip (i := 15) rfl (by kernel_rfl) rfl rfl rfl rfl g1 ?_
              refine JA_skip (i := 16) rfl (by kernel_rfl) rfl rfl rfl rfl g1 ?_
              refine JA_skip (i := 17) rfl (by kernel_rfl) rfl rfl rfl rfl g1 ?_
              refine JA_skip (i := 18) rfl (by kernel_rfl) rfl rfl rfl rfl g1 ?_
              refine JA_skip (i := 19) rfl (by kernel_rfl) rfl rfl rfl rfl g1 ?_
              refine JA_skip (i := 20) rfl (by kernel_rfl) rfl rfl rfl rfl g1 ?_
              refine JA_skip (i := 21) rfl (by kernel_rfl) rfl rfl rfl rfl g1 ?_
              refine JA_skip (i := 22) rfl (by kernel_rfl) rfl rfl rfl rfl g1 ?_
              refine JA_skip (i := 23) rfl (by kernel_rfl) rfl rfl rfl rfl g1 ?_
              refine JA_pd (i := 24) rfl (by kernel_rfl) rfl rfl (det_pick_f rfl g1 rfl) ?_
              refine JA_pd (i := 25) rfl (by kernel_rfl) rfl rfl (det_move rfl) ?_
              refine JA_skip (i := 26) rfl (by kernel_rfl) rfl rfl rfl rfl rfl ?_
              refine JA_skip (i := 27) rfl (by kernel_rfl) rfl rfl rfl rfl rfl ?_
              refine JA_skip (i := 28) rfl (by kernel_rfl) rfl rfl rfl rfl rfl ?_
              refine JA_skip (i := 29) rfl (by kernel_rfl) rfl rfl rfl rfl rfl ?_
              refine JA_skip (i := 30) rfl (by kernel_rfl) rfl rfl rfl rfl rfl ?_
              refine JA_skip (i := 31) rfl (by kernel_rfl) rfl rfl rfl rfl rfl ?_
              refine JA_skip (i := 32) rfl (by kernel_rfl) rfl rfl rfl rfl rfl ?_
              refine JA_skip (i := 33) rfl (by kernel_rfl) rfl rfl rfl rfl rfl ?_
              refine JA_skip (i := 34) rfl (by kernel_rfl) rfl rfl rfl rfl rfl ?_
              refine JA_skip (i := 35) rfl (by kernel_rfl) rfl rfl rfl rfl rfl ?_
              refine JA_pd (i := 36) rfl (by kernel_rfl) rfl rfl (det_pick_f rfl rfl rfl) ?_
              refine JA_pd (i := 37) rfl (by kernel_rfl) rfl rfl (det_move rfl) ?_
              refine JA_skip (i := 38) rfl (by kernel_rfl) rfl rfl rfl rfl rfl ?_
              refine JA_skip (i := 39) rfl (by kernel_rfl) rfl rfl rfl rfl rfl ?_
              refine JA_skip (i := 40) rfl (by kernel_rfl) rfl rfl rfl rfl rfl ?_
              refine JA_skip (i := 41) rfl (by kernel_rfl) rfl rfl rfl rfl rfl ?_
              refine JA_skip (i := 42) rfl (by kernel_rfl) rfl rfl rfl rfl rfl ?_
              refine JA_skip (i := 43) rfl (by kernel_rfl) rfl rfl rfl rfl rfl ?_
              refine JA_skip (i := 44) rfl (by kernel_rfl) rfl rfl rfl rfl rfl ?_
              refine JA_skip (i := 45) rfl (by kernel_rfl) rfl rfl rfl rfl rfl ?_
              refine JA_skip (i := 46) rfl (by kernel_rfl) rfl rfl rfl rfl rfl ?_
              refine JA_skip (i := 47) rfl (by kernel_rfl) rfl rfl rfl rfl rfl ?_
              refine JA_pd (i := 48) rfl (by kernel_rfl) rfl rfl (det_pick_f rfl rfl rfl) ?_
              refine JA_done (by kernel_rfl) ?_
              refine JE_seq ?_
              refine JC_condF rfl rfl ?_
              refine JC_skip ?_
              refine JE_block ?_
              refine JE_seq ?_
              refine JC_region ?_
              refine JL_pd rfl (det_move rfl) ?_
              refine JL_pd rfl (det_add rfl rfl ⟨by omega, by omega⟩) ?_
              refine JL_pd rfl (det_assign rfl) ?_
              refine JL_nil ?_
              -- stop: end
              refine JE_roundF hK3 (k + 1) (by omega) (by omega) (stsub_consI rfl (by omega) stsub_nil) ht_nil
          · obtain rfl : k = i := by omega
            refine JC_exit ?_
            refine JE_seq_exit ?_
            refine JE_then_exit ?_
            refine JE_block_here ?_
            refine JE_block ?_
            refine JE_seq ?_
            refine JC_region ?_
            refine JL_pd rfl (det_move rfl) ?_
            refine JL_pd rfl (det_add rfl rfl ⟨by omega, by omega⟩) ?_
            refine JL_pd rfl (det_assign rfl) ?_
            refine JL_nil ?_
            -- stop: end
            refine JE_roundF hK2 (k + 1) (by omega) (by omega) (stsub_consI rfl (by omega) stsub_nil) ht_nil
        · obtain rfl : i = xs.length := by omega
          refine JC_exit ?_
          refine JE_seq_exit ?_
          refine JE_then_exit ?_
          refine JE_block_here ?_
          refine JE_block ?_
          refine JE_seq ?_
          refine JC_region ?_
          refine JL_pd rfl (det_move rfl) ?_
          refine JL_pd rfl (det_add rfl rfl ⟨by omega, by omega⟩) ?_
          refine JL_pd rfl (det_assign rfl) ?_
          refine JL_nil ?_
          -- stop: end
          refine JE_roundF hK1 (m + 1) (by omega) (by omega) (stsub_consI rfl (by omega) stsub_nil) ht_nil
      · refine JC_exit ?_
        refine JE_seq_exit ?_
        refine JE_then_exit ?_
        refine JE_block_here ?_
        refine JE_seq ?_
        refine JC_seq ?_
        refine JC_region ?_
        refine JL_step rfl rfl rfl (jo_callv rfl rfl Try.call17 rfl (awake_j)) fun _ => ?_
        refine JL_pd rfl (det_assign rfl) ?_
        refine JL_nil ?_
        refine JE_seq ?_
        refine JC_ret ?_
        -- stop: out
        refine JE_out (.inl rfl) () (results1 Try.results5 (res_tmp rfl)) rfl (List.Perm.refl _) (fun _ _ => trivial)
end Go.Proofs.Ytkmaafnbefpdjaa

/- Walks of lend: Marks. -/
namespace Go.Proofs.Ytkmaafnbefpdjaa
open Go.RowKit Go.Shelf

set_option maxRecDepth 100000 in
theorem between_j (b mb : Nat) (x : Hx) (ga : Option Addr) (gc : Nat) (xs : List Gx) (lo hi : Int) (hn : xs.length ≤ 1000) : Cv Try.prog 80 [pt b, I lo, I hi] (KAnd (KBox b (wkC x ga xs.length gc mb)) (KSl ga xs.length gc encG xs)) (I (btw (gs xs) lo hi)) := by
  unfold wkC
  have hb : btw (gs xs) lo hi = ((xs.countP fun y => decide (lo < y.g.fr) && decide (y.g.hi < hi) : Nat) : Int) := by unfold btw; rw [gs, countP_map']
  refine Cx_of Try.func80 rfl Try.ntmps80 rfl fun w0 M0 => ?_
  refine JC_seq ?_
  refine JC_region ?_
  refine JL_pd rfl (det_assign rfl) ?_
  refine JL_nil ?_
  refine JE_seq ?_
  refine JC_seq ?_
  refine JC_seq ?_
  refine JC_region ?_
  refine JL_pd rfl (det_move rfl) ?_
  refine JL_pd rfl (det_nilCheck rfl) ?_
  refine JL_pd rfl (det_fieldAddr rfl fo_113_1) ?_
  refine JL_dt rfl (det_loadK rfl Try.isAgg32 rfl) ?_
  refine JL_pd rfl (det_len rfl Try.runUnderlying32) ?_
  refine JL_pd rfl (det_move rfl) ?_
  refine JL_nil ?_
  refine JE_seq ?_
  refine JC_block ?_
  -- stop: loop
  refine JC_loopF (γ := Nat) (fun i => i ≤ xs.length) (fun i => [(14, I i), (6, I (((xs.take i).countP fun y => decide (lo < y.g.fr) && decide (y.g.hi < hi) : Nat) : Int))]) (fun _ => []) (fun i => xs.length - i) 0 (Nat.zero_le _) (stsub_consI rfl rfl (stsub_consI rfl rfl stsub_nil)) ht_nil ?_
  intro i hi' K hK
  dsimp only [List.cons_append, List.nil_append]
  have hcl : (xs.take i).countP (fun y => decide (lo < y.g.fr) && decide (y.g.hi < hi)) ≤ xs.length := Nat.le_trans List.countP_le_length (by rw [List.length_take]; omega)
  refine JC_seq ?_
  refine JC_region ?_
  refine JL_pd rfl (det_lss rfl rfl) ?_
  refine JL_nil ?_
  refine JE_seq ?_
  refine JC_seq ?_
  -- stop: cond
  refine JC_if rfl (fun h1 => ?_) (fun h1 => ?_)
  · have hi2 : i < xs.length := by omega
    have hs := countP_snoc (fun y : Gx => decide (lo < y.g.fr) && decide (y.g.hi < hi)) xs i hi2
    refine JC_skip ?_
    refine JE_seq ?_
    refine JC_seq ?_
    refine JC_block ?_
    refine JC_seq ?_
    refine JC_region ?_
    refine JL_dt rfl (det_indexAddr rfl rfl (by first | rfl | omega) (by first | assumption | omega | decide) Try.runUnderlying32 Try.sizeOf81) ?_
    refine JL_dt rfl (det_loadEA rfl (by first | assumption | omega | decide) Try.isAgg81 Try.sizeOf81 rfl rfl rfl) ?_
    refine JL_step rfl rfl rfl (jo_alloc0 Try.zeroValue81 rfl) fun b8 => ?_
    refine JL_step0 rfl rfl (jo_store rfl rfl rfl (by first | (simp only [splice_norm]; done) | (simp only [splice_norm]; rfl) | rfl) Try.sizeOf81 rfl rfl) fun _ => ?_
    refine JL_nil ?_
    refine JE_seq ?_
    refine JC_seq ?_
    refine JC_region ?_
    refine JL_pd rfl (det_move rfl) ?_
    refine JL_pd rfl (det_fieldAddr rfl fo_81_0) ?_
    refine JL_dt rfl (det_loadK rfl Try.isAgg3 rfl) ?_
    refine JL_pd rfl (det_lss rfl rfl) ?_
    refine JL_pd rfl (det_move rfl) ?_
    -- stop: guard 4
    refine JL_join1 6 28 (.bool (decide (lo < xs[i].g.fr) && decide (xs[i].g.hi < hi))) (fun hj => ?_) ?_
    · refine JL_split (d0 := 22) rfl (fun q1 => ?_) (fun q1 => ?_)
      · refine JL_guard rfl rfl q1 ?_
        refine JL_pd rfl (det_fieldAddr rfl fo_81_1) ?_
        refine JL_guard rfl rfl q1 ?_
        refine JL_pd rfl (det_fieldAddr rfl fo_79_1) ?_
        refine JL_guard rfl rfl q1 ?_
        refine JL_dt rfl (det_loadK rfl Try.isAgg3 rfl) ?_
        refine JL_guard rfl rfl q1 ?_
        refine JL_pd rfl (det_move rfl) ?_
        refine JL_guard rfl rfl q1 ?_
        refine JL_pd rfl (det_lss rfl rfl) ?_
        refine JL_pd rfl (det_pick_t rfl q1 rfl) ?_
        exact hj (by kernel_rfl) (stsub_consB rfl (by clear hj; first | rfl | (simp only [q1, Bool.and_true, Bool.true_and, Bool.false_and, Bool.and_false, Bool.or_true, Bool.true_or, Bool.or_false, Bool.false_or, Bool.not_true, Bool.not_false]; done) | (simp [q1]; done) | (simp at q1; done) | (simp [q1] <;> omega) | (exfalso; simp at q1; omega)) stsub_nil)
      · refine JL_skip rfl rfl q1 rfl ?_
        refine JL_skip rfl rfl q1 rfl ?_
        refine JL_skip rfl rfl q1 rfl ?_
        refine JL_skip rfl rfl q1 rfl ?_
        refine JL_skip rfl rfl q1 rfl ?_
        refine JL_pd rfl (det_pick_f rfl q1 rfl) ?_
        exact hj (by kernel_rfl) (stsub_consB rfl (by clear hj; first | rfl | (simp only [q1, Bool.and_true, Bool.true_and, Bool.false_and, Bool.and_false, Bool.or_true, Bool.true_or, Bool.or_false, Bool.false_or, Bool.not_true, Bool.not_false]; done) | (simp [q1]; done) | (simp at q1; done) | (simp [q1] <;> omega) | (exfalso; simp at q1; omega)) stsub_nil)
    refine JL_nil ?_
    refine JE_seq ?_
    -- stop: cond
    refine JC_cond rfl (fun h2 => ?_) (fun h2 => ?_)
    · refine JC_region ?_
      refine JL_pd rfl (det_move rfl) ?_
      refine JL_pd rfl (det_add rfl rfl ⟨by omega, by omega⟩) ?_
      refine JL_pd rfl (det_assign rfl) ?_
      refine JL_nil ?_
      refine JE_block ?_
      refine JE_seq ?_
      refine JC_region ?_
      refine JL_pd rfl (det_add rfl rfl ⟨by omega, by omega⟩) ?_
      refine JL_pd rfl (det_move rfl) ?_
      refine JL_nil ?_
      -- stop: end
      rw [if_pos h2] at hs
      refine JE_roundF hK (i + 1) (by omega) (by omega) (stsub_consI rfl (by omega) (stsub_consI rfl (by omega) stsub_nil)) ht_nil
    · refine JC_skip ?_
      refine JE_block ?_
      refine JE_seq ?_
      refine JC_region ?_
      refine JL_pd rfl (det_add rfl rfl ⟨by omega, by omega⟩) ?_
      refine JL_pd rfl (det_move rfl) ?_
      refine JL_nil ?_
      -- stop: end
      rw [if_neg (by rw [h2]; decide)] at hs
      refine JE_roundF hK (i + 1) (by omega) (by omega) (stsub_consI rfl (by omega) (stsub_consI rfl (by omega) stsub_nil)) ht_nil
  · refine JC_exit ?_
    refine JE_seq_exit ?_
    refine JE_then_exit ?_
    refine JE_block_here ?_
    refine JE_seq ?_
    refine JC_seq ?_
    refine JC_region ?_
    refine JL_pd rfl (det_move rfl) ?_
    refine JL_pd rfl (det_assign rfl) ?_
    refine JL_nil ?_
    refine JE_seq ?_
    refine JC_ret ?_
    -- stop: out
    obtain rfl : i = xs.length := by omega
    refine JE_out (.inl rfl) () (results1 Try.results80 (res_tmp rfl)) (by rw [hb, List.take_length]) (List.Perm.refl _) (fun _ _ => trivial)
set_option maxRecDepth 100000 in
theorem min_j (b : Nat) (x y : Int) : Cv Try.prog 99 [.slice (some ⟨b, 0, none⟩) 2 2] (KSl (some ⟨b, 0, none⟩) 2 2 encI [x, y]) (I (min x y)) := by
  refine Cx_of Try.func99 rfl Try.ntmps99 rfl fun w0 M0 => ?_
  refine JC_seq ?_
  refine JC_region ?_
  refine JL_pd rfl (det_assign rfl) ?_
  refine JL_nil ?_
  refine JE_seq ?_
  refine JC_seq ?_
  refine JC_seq ?_
  refine JC_region ?_
  refine JL_pd rfl (det_move rfl) ?_
  refine JL_pd rfl (det_len rfl Try.runUnderlying22) ?_
  refine JL_pd rfl (det_lss rfl rfl) ?_
  refine JL_nil ?_
  refine JE_seq ?_
  -- stop: cond
  refine JC_if rfl (fun h0 => ?_) (fun h0 => ?_)
  · exact absurd h0 (by decide)
  refine JC_skip ?_
  refine JE_seq ?_
  refine JC_seq ?_
  refine JC_region ?_
  refine JL_pd rfl (det_move rfl) ?_
  refine JL_dt rfl (det_indexAddr (i := 0) rfl rfl rfl (by decide) Try.runUnderlying22 Try.sizeOf3) ?_
  refine JL_dt rfl (det_loadE (n := 2) (i := 0) (xs := [x, y]) rfl (by decide) Try.isAgg3 rfl rfl) ?_
  refine JL_pd rfl (det_assign rfl) ?_
  refine JL_nil ?_
  refine JE_seq ?_
  refine JC_seq ?_
  refine JC_seq ?_
  refine JC_region ?_
  refine JL_pd rfl (det_assign rfl) ?_
  refine JL_nil ?_
  refine JE_seq ?_
  refine JC_block ?_
  -- stop: loop
  refine JC_loopF (γ := Nat) (fun i => i = 1 ∨ i = 2) (fun i => [(4, I i), (3, I (if i = 1 then x else min x y))]) (fun _ => []) (fun i => 2 - i) 1 (.inl rfl) (stsub_consI rfl rfl (stsub_consI rfl rfl stsub_nil)) ht_nil ?_
  intro i hi K hK
  dsimp only [List.cons_append, List.nil_append]
  refine JC_seq ?_
  refine JC_seq ?_
  refine JC_region ?_
  refine JL_pd rfl (det_move rfl) ?_
  refine JL_pd rfl (det_move rfl) ?_
  refine JL_pd rfl (det_len rfl Try.runUnderlying22) ?_
  refine JL_pd rfl (det_lss rfl rfl) ?_
  refine JL_nil ?_
  refine JE_seq ?_
  -- stop: cond
  refine JC_if rfl (fun h1 => ?_) (fun h1 => ?_)
  · obtain rfl : i = 1 := by omega
    rw [if_pos rfl]
    refine JC_skip ?_
    refine JE_seq ?_
    refine JC_seq ?_
    refine JC_block ?_
    refine JC_region ?_
    refine JL_pd rfl (det_move rfl) ?_
    refine JL_pd rfl (det_move rfl) ?_
    refine JL_pd rfl (det_move rfl) ?_
    refine JL_dt rfl (det_indexAddr rfl rfl (by first | rfl | omega) (by first | assumption | omega | decide) Try.runUnderlying22 Try.sizeOf3) ?_
    refine JL_dt rfl (det_loadE (n := 2) (i := 1) (xs := [x, y]) rfl (by decide) Try.isAgg3 rfl rfl) ?_
    refine JL_pd rfl (det_min rfl rfl) ?_
    refine JL_pd rfl (det_assign rfl) ?_
    refine JL_nil ?_
    refine JE_block ?_
    refine JE_seq ?_
    refine JC_region ?_
    refine JL_pd rfl (det_move rfl) ?_
    refine JL_pd rfl (det_add rfl rfl ⟨by omega, by omega⟩) ?_
    refine JL_pd rfl (det_assign rfl) ?_
    refine JL_nil ?_
    -- stop: end
    refine JE_roundF hK 2 (.inr rfl) (by omega) (stsub_consI rfl (by decide) (stsub_consI rfl rfl stsub_nil)) ht_nil
  · obtain rfl : i = 2 := by omega
    refine JC_exit ?_
    refine JE_seq_exit ?_
    refine JE_then_exit ?_
    refine JE_block_here ?_
    refine JE_seq ?_
    refine JC_seq ?_
    refine JC_region ?_
    refine JL_pd rfl (det_move rfl) ?_
    refine JL_pd rfl (det_assign rfl) ?_
    refine JL_nil ?_
    refine JE_seq ?_
    refine JC_ret ?_
    -- stop: out
    refine JE_out (.inl rfl) () (results1 Try.results99 (res_tmp rfl)) (by rw [if_neg (by decide)]) (List.Perm.refl _) (fun _ _ => trivial)
theorem least_j (b : Nat) (x y : Int) : Cv Try.prog 81 [.slice (some ⟨b, 0, none⟩) 2 2] (KSl (some ⟨b, 0, none⟩) 2 2 encI [x, y]) (I (min x y)) := by
  refine Cx_of Try.func81 rfl Try.ntmps81 rfl fun w0 M0 => ?_
  refine JC_seq ?_
  refine JC_region ?_
  refine JL_pd rfl (det_assign rfl) ?_
  refine JL_nil ?_
  refine JE_seq ?_
  refine JC_seq ?_
  refine JC_region ?_
  refine JL_pd rfl (det_move rfl) ?_
  refine JL_step rfl rfl rfl (jo_callv rfl rfl Try.call99 rfl (min_j b x y)) fun _ => ?_
  refine JL_pd rfl (det_assign rfl) ?_
  refine JL_nil ?_
  refine JE_seq ?_
  refine JC_ret ?_
  -- stop: out
  refine JE_out (.inl rfl) () (results1 Try.results81 (res_tmp rfl)) rfl (List.Perm.refl _) (fun _ _ => trivial)
theorem least_x (b : Nat) (x y : Int) : Cx Try.prog 81 [.slice (some ⟨b, 0, none⟩) 2 2] [bx b [I x, I y]] KTrue (fun _ : Unit => I (min x y)) (fun _ => [bx b [I x, I y]]) (fun _ => KTrue) :=
  Cx.lend (bx b [I x, I y]) ((least_j b x y).mono (fun w hw => KSl_of_box2 (xs := [x, y]) rfl rfl (by decide) hw.1) fun _ _ h => h)
theorem btw_bd (l : List Gr) (a b : Int) : 0 ≤ btw l a b ∧ btw l a b ≤ l.length := by
  unfold btw
  have := List.countP_le_length (p := fun g : Gr => decide (a < g.fr) && decide (g.hi < b)) (l := l)
  omega
theorem choV_bd {k : Int} (hk : 0 ≤ k) (l : List Gr) : ∀ (n : Nat) (m : Int), -1 ≤ m → m ≤ 30 → (30 - m).toNat ≤ n → 0 ≤ (choV k l m).1 ∧ (choV k l m).1 ≤ l.length
  | n, m, h1, h2, hn => by
    obtain ⟨s1, s2, _⟩ := choN_spec k l m (30 - m).toNat
    rw [← choV_eq k l h1 h2] at s1 s2
    have hb := btw_bd l m 31
    refine ⟨?_, by omega⟩
    rcases s1 with ⟨e, _⟩ | ⟨i, hi, _, e⟩
    · omega
    · cases n with
      | zero => omega
      | succ n =>
        have := choV_bd hk l n (m + 1 + i) (by omega) (by omega) (by omega)
        have := btw_bd l m (m + 1 + i)
        omega
theorem choN_bd {k : Int} (hk : 0 ≤ k) (l : List Gr) (m : Int) (h1 : -1 ≤ m) (j : Nat) (h2 : m + j ≤ 30) : 0 ≤ (choN k l m j).1 ∧ (choN k l m j).1 ≤ l.length := by
  obtain ⟨s1, s2, _⟩ := choN_spec k l m j
  have hb := btw_bd l m 31
  refine ⟨?_, by omega⟩
  rcases s1 with ⟨e, _⟩ | ⟨i, hi, _, e⟩
  · omega
  · have := choV_bd hk l 31 (m + 1 + i) (by omega) (by omega) (by omega)
    have := btw_bd l m (m + 1 + i)
    omega
def evCh (c : Int × Int) : Value := .agg #[I c.1, I c.2]
def GoodKn (k : Int) (l : List Gr) (kn : Int → Option (Int × Int)) : Prop := ∀ m c, kn m = some c → c = choV k l m
theorem GoodKn.upd' {k : Int} {l : List Gr} {kn : Int → Option (Int × Int)} (h : GoodKn k l kn) {m : Int} {c : Int × Int} (hc : c = choV k l m) : GoodKn k l (upd kn m c) := fun m' c' h' => by
  unfold upd at h'
  split at h'
  · rename_i e; subst e; cases h'; exact hc
  · exact h m' c' h'
set_option maxRecDepth 100000 in
set_option maxHeartbeats 1000000 in
theorem from_j (x : Hx) (ga : Option Addr) (gc : Nat) (xs : List Gx) (kb mm wp wb wm hb fb : Nat) (hl : 0 ≤ x.h.lanes ∧ x.h.lanes ≤ 5) (hn : xs.length ≤ 8) : ∀ (n : Nat) (m : Int) (kn : Int → Option (Int × Int)), -1 ≤ m → m ≤ 30 → (30 - m).toNat = n → GoodKn x.h.lanes (gs xs) kn →
    Cx Try.prog 79 [I m, pt kb, pt wp, pt hb, pt fb] [mp mm ekI evCh kn] (KAnd (KBox kb [.map (some mm)]) (KAnd (KBox wp [pt wb]) (KAnd (KBox hb [I x.h.lanes, .slice x.a x.h.shoes.length x.c]) (KAnd (KBox fb [.func (.func 79) #[] #[pt kb, pt wp, pt hb, pt fb]]) (KAnd (KBox wb (wkC x ga xs.length gc wm)) (KSl ga xs.length gc encG xs))))))
      (fun _ : { kn' // GoodKn x.h.lanes (gs xs) kn' } => .agg #[I (choV x.h.lanes (gs xs) m).1, I (choV x.h.lanes (gs xs) m).2]) (fun q => [mp mm ekI evCh q.1]) (fun _ => KTrue) := by
  intro n
  induction n using Nat.strongRecOn
  rename_i n IH
  intro m kn hm1 hm2 hmn hg
  have hgl : (gs xs).length = xs.length := List.length_map _
  cases hkm : kn m with
  | some c =>
    have hc := hg m c hkm
    subst hc
    refine Cx_of Try.func79 rfl Try.ntmps79 rfl fun w0 M0 => ?_
    refine JC_seq ?_
    refine JC_region ?_
    refine JL_step rfl rfl rfl (jo_alloc0 Try.zeroValue105 rfl) fun b6 => ?_
    refine JL_nil ?_
    refine JE_seq ?_
    refine JC_seq ?_
    refine JC_seq ?_
    refine JC_region ?_
    refine JL_dt rfl (det_loadK rfl Try.isAgg102 rfl) ?_
    refine JL_pd rfl (det_move rfl) ?_
    refine JL_dt rfl (det_lookup2S (ek := ekI) (ev := evCh) (key := m) hkm rfl rfl (goodI Try.underlying3) Try.underlying102 Try.zeroValue105) ?_
    refine JL_pd rfl (det_move rfl) ?_
    refine JL_pd rfl (det_extract rfl rfl) ?_
    refine JL_pd rfl (det_extract rfl rfl) ?_
    refine JL_step rfl rfl rfl (jo_alloc0 Try.zeroValue105 rfl) fun b7 => ?_
    refine JL_step0 rfl rfl (jo_store rfl rfl rfl (by first | (simp only [splice_norm]; done) | (simp only [splice_norm]; rfl) | rfl) Try.sizeOf105 rfl rfl) fun _ => ?_
    refine JL_pd rfl (det_assign rfl) ?_
    refine JL_nil ?_
    refine JE_seq ?_
    refine JC_seq ?_
    refine JC_region ?_
    refine JL_pd rfl (det_move rfl) ?_
    refine JL_nil ?_
    refine JE_seq ?_
    -- stop: cond
    refine JC_cond rfl (fun h1 => ?_) (fun h1 => ?_)
    · refine JC_seq ?_
      refine JC_region ?_
      refine JL_dt rfl (det_loadKA rfl Try.isAgg105 Try.sizeOf105 rfl rfl) ?_
      refine JL_step0 rfl rfl (jo_store rfl rfl rfl (by first | (simp only [splice_norm]; done) | (simp only [splice_norm]; rfl) | rfl) Try.sizeOf105 rfl rfl) fun _ => ?_
      refine JL_nil ?_
      refine JE_seq ?_
      refine JC_ret ?_
      refine JE_seq_ret ?_
      -- stop: out
      refine JE_out (.inl rfl) ⟨kn, hg⟩ (results1 Try.results79 (res_box rfl Try.isAgg105 Try.sizeOf105 rfl)) rfl pick_perm (fun _ _ => trivial)
    · cases h1
  | none =>
    refine Cx_of Try.func79 rfl Try.ntmps79 rfl fun w0 M0 => ?_
    refine JC_seq ?_
    refine JC_region ?_
    refine JL_step rfl rfl rfl (jo_alloc0 Try.zeroValue105 rfl) fun b6 => ?_
    refine JL_nil ?_
    refine JE_seq ?_
    refine JC_seq ?_
    refine JC_seq ?_
    refine JC_region ?_
    refine JL_dt rfl (det_loadK rfl Try.isAgg102 rfl) ?_
    refine JL_pd rfl (det_move rfl) ?_
    refine JL_dt rfl (det_lookup2N (ek := ekI) (ev := evCh) (key := m) hkm rfl rfl (goodI Try.underlying3) Try.underlying102 Try.zeroValue105) ?_
    refine JL_pd rfl (det_move rfl) ?_
    refine JL_pd rfl (det_extract rfl rfl) ?_
    refine JL_pd rfl (det_extract rfl rfl) ?_
    refine JL_step rfl rfl rfl (jo_alloc0 Try.zeroValue105 rfl) fun b7 => ?_
    refine JL_step0 rfl rfl (jo_store rfl rfl rfl (by first | (simp only [splice_norm]; done) | (simp only [splice_norm]; rfl) | rfl) Try.sizeOf105 rfl rfl) fun _ => ?_
    refine JL_pd rfl (det_assign rfl) ?_
    refine JL_nil ?_
    refine JE_seq ?_
    refine JC_seq ?_
    refine JC_region ?_
    refine JL_pd rfl (det_move rfl) ?_
    refine JL_nil ?_
    refine JE_seq ?_
    -- stop: cond
    refine JC_cond rfl (fun h1 => ?_) (fun h1 => ?_)
    · cases h1
    refine JC_skip ?_
    refine JE_seq ?_
    refine JC_seq ?_
    refine JC_region ?_
    refine JL_dt rfl (det_loadK rfl Try.isAgg84 rfl) ?_
    refine JL_pd rfl (det_move rfl) ?_
    refine JL_step rfl rfl rfl (jo_callv rfl rfl Try.call80 rfl (between_j wb wm x ga gc xs _ _ (by omega))) fun _ => ?_
    refine JL_pd rfl (det_build rfl (bld_105_0_1 _ _)) ?_
    refine JL_step rfl rfl rfl (jo_alloc0 Try.zeroValue105 rfl) fun b9 => ?_
    refine JL_step0 rfl rfl (jo_store rfl rfl rfl (by first | (simp only [splice_norm]; done) | (simp only [splice_norm]; rfl) | rfl) Try.sizeOf105 rfl rfl) fun _ => ?_
    refine JL_nil ?_
    refine JE_seq ?_
    refine JC_seq ?_
    refine JC_seq ?_
    refine JC_region ?_
    refine JL_pd rfl (det_move rfl) ?_
    refine JL_pd rfl (det_add rfl rfl ⟨by omega, by omega⟩) ?_
    refine JL_pd rfl (det_assign rfl) ?_
    refine JL_nil ?_
    refine JE_seq ?_
    refine JC_block ?_
    -- stop: loop
    refine JC_loopF (γ := Nat × { kn' // GoodKn x.h.lanes (gs xs) kn' }) (fun q => q.1 ≤ (30 - m).toNat) (fun q => [(10, I (m + 1 + q.1))]) (fun q => [bx b9 [I (choN x.h.lanes (gs xs) m q.1).1, I (choN x.h.lanes (gs xs) m q.1).2], mp mm ekI evCh q.2.1]) (fun q => (30 - m).toNat - q.1) (0, ⟨kn, hg⟩) (Nat.zero_le _) (stsub_consI rfl (by simp) stsub_nil) (ht_bx rfl (ht_cons ht_nil)) ?_
    rintro ⟨j, kn2, hg2⟩ hj K hK
    dsimp only [List.cons_append, List.nil_append] at hj ⊢
    refine JC_seq ?_
    refine JC_seq ?_
    refine JC_region ?_
    refine JL_pd rfl (det_move rfl) ?_
    refine JL_pd rfl (det_lss rfl rfl) ?_
    refine JL_nil ?_
    refine JE_seq ?_
    -- stop: cond
    refine JC_if rfl (fun h2 => ?_) (fun h2 => ?_)
    · have hj2 : m + 1 + j ≤ 30 := by omega
      have hbd := choV_bd hl.1 (gs xs) 31 (m + 1 + j) (by omega) hj2 (by omega)
      have hbn := choN_bd hl.1 (gs xs) m hm1 j (by omega)
      have hbt := btw_bd (gs xs) m (m + 1 + j)
      refine JC_skip ?_
      refine JE_seq ?_
      refine JC_seq ?_
      refine JC_block ?_
      refine JC_seq ?_
      refine JC_draw0 (by kernel_rfl) ?_
      refine JA_dt (i := 0) rfl (by kernel_rfl) (by kernel_rfl) rfl rfl (det_loadK rfl Try.isAgg84 rfl) ?_
      refine JA_pd (i := 1) rfl (by kernel_rfl) rfl rfl (det_move rfl) ?_
      refine JA_pd (i := 2) rfl (by kernel_rfl) rfl rfl (det_move rfl) ?_
      refine JA_pd (i := 4) rfl (by kernel_rfl) rfl rfl (det_fieldAddr rfl fo_30_0) ?_
      refine JA_dt (i := 5) rfl (by kernel_rfl) (by kernel_rfl) rfl rfl (det_loadK rfl Try.isAgg3 rfl) ?_
      refine JA_dt (i := 7) rfl (by kernel_rfl) (by kernel_rfl) rfl rfl (det_loadK rfl Try.isAgg103 rfl) ?_
      refine JA_pd (i := 8) rfl (by kernel_rfl) rfl rfl (det_move rfl) ?_
      refine JA_oneH (i := 3) (by kernel_rfl) rfl rfl (jo_callv rfl rfl Try.call80 rfl (between_j wb wm x ga gc xs _ _ (by omega))) (fun _ => ⟨HIn.sub, Knows.know⟩) fun _ => ?_
      refine JA_pd (i := 6) rfl (by kernel_rfl) rfl rfl (det_add rfl rfl ⟨by omega, by omega⟩) ?_
      -- stop: op  9 t39 := (call (Call (value t37) (t38) (3)))   <7 8 3>   256
      refine JA_oneH (i := 9) (by kernel_rfl) rfl rfl (jo_callx rfl rfl Try.call79 rfl (IH (30 - (m + 1 + j)).toNat (by omega) (m + 1 + j) kn2 (by omega) hj2 rfl hg2) (pick_perm)) (fun _ => ⟨HIn.sub, Knows.know⟩) fun q => ?_
      refine JA_pd (i := 10) rfl (by kernel_rfl) rfl rfl (det_field rfl (fld_105_0 _ _)) ?_
      refine JA_pd (i := 11) rfl (by kernel_rfl) rfl rfl (det_add rfl rfl ⟨by omega, by omega⟩) ?_
      refine JA_pd (i := 12) rfl (by kernel_rfl) rfl rfl (det_assign rfl) ?_
      refine JA_done (by kernel_rfl) ?_
      refine JE_seq ?_
      refine JC_seq ?_
      refine JC_region ?_
      refine JL_pd rfl (det_move rfl) ?_
      refine JL_pd rfl (det_move rfl) ?_
      refine JL_pd rfl (det_fieldAddr rfl fo_105_0) ?_
      refine JL_dt rfl (det_loadK rfl Try.isAgg3 rfl) ?_
      refine JL_pd rfl (det_sub rfl rfl ⟨by omega, by omega⟩) ?_
      refine JL_step rfl rfl rfl (jo_buildSlice rfl (bsl_22_2_0_1 _ _)) fun b47 => ?_
      refine JL_step rfl rfl rfl (jo_callx rfl rfl Try.call81 rfl (least_x b47 (btw (gs xs) m (m + 1 + j) + x.h.lanes + (choV x.h.lanes (gs xs) (m + 1 + j)).1) ((choN x.h.lanes (gs xs) m j).1 - 1)) (pick_perm)) fun x48 => ?_
      refine JL_pd rfl (det_eql rfl rfl) ?_
      refine JL_nil ?_
      refine JE_seq ?_
      -- stop: cond
      refine JC_if rfl (fun h3 => ?_) (fun h3 => ?_)
      · have hcn : choN x.h.lanes (gs xs) m (j + 1) = (btw (gs xs) m (m + 1 + j) + x.h.lanes + (choV x.h.lanes (gs xs) (m + 1 + j)).1, m + 1 + j) := by
          conv => lhs; unfold choN
          rw [if_pos (by omega)]
        refine JC_region ?_
        refine JL_pd rfl (det_move rfl) ?_
        refine JL_pd rfl (det_move rfl) ?_
        refine JL_pd rfl (det_build rfl (bld_105_0_1 _ _)) ?_
        refine JL_step0 rfl rfl (jo_store rfl rfl rfl (by first | (simp only [splice_norm]; done) | (simp only [splice_norm]; rfl) | rfl) Try.sizeOf105 rfl rfl) fun _ => ?_
        refine JL_nil ?_
        refine JE_block ?_
        refine JE_seq ?_
        refine JC_region ?_
        refine JL_pd rfl (det_move rfl) ?_
        refine JL_pd rfl (det_add rfl rfl ⟨by omega, by omega⟩) ?_
        refine JL_pd rfl (det_assign rfl) ?_
        refine JL_nil ?_
        -- stop: end
        refine JE_roundF hK (j + 1, q) (by simp only; omega) (by simp only; omega) (stsub_consI rfl (by simp only; omega) stsub_nil) (ht_bx (by simp only; rw [hcn]) (ht_cons ht_nil))
      · have hcn : choN x.h.lanes (gs xs) m (j + 1) = choN x.h.lanes (gs xs) m j := by
          conv => lhs; unfold choN
          rw [if_neg (by omega)]
        refine JC_skip ?_
        refine JE_block ?_
        refine JE_seq ?_
        refine JC_region ?_
        refine JL_pd rfl (det_move rfl) ?_
        refine JL_pd rfl (det_add rfl rfl ⟨by omega, by omega⟩) ?_
        refine JL_pd rfl (det_assign rfl) ?_
        refine JL_nil ?_
        -- stop: end
        refine JE_roundF hK (j + 1, q) (by simp only; omega) (by simp only; omega) (stsub_consI rfl (by simp only; omega) stsub_nil) (ht_bx (by simp only; rw [hcn]) (ht_cons ht_nil))
    · have hj2 : j = (30 - m).toNat := by omega
      have hch := choV_eq x.h.lanes (gs xs) hm1 hm2
      subst hj2
      rw [← hch]
      refine JC_exit ?_
      refine JE_seq_exit ?_
      refine JE_then_exit ?_
      refine JE_block_here ?_
      refine JE_seq ?_
      refine JC_seq ?_
      refine JC_region ?_
      refine JL_dt rfl (det_loadK rfl Try.isAgg102 rfl) ?_
      refine JL_pd rfl (det_move rfl) ?_
      refine JL_dt rfl (det_loadKA rfl Try.isAgg105 Try.sizeOf105 rfl rfl) ?_
      refine JL_step0 rfl rfl (jo_mapUpdate (ek := ekI) (ev := evCh) m (choV x.h.lanes (gs xs) m) (.inl rfl) rfl rfl rfl (goodI Try.underlying3) Try.underlying102) fun _ => ?_
      refine JL_nil ?_
      refine JE_seq ?_
      refine JC_seq ?_
      refine JC_region ?_
      refine JL_dt rfl (det_loadKA rfl Try.isAgg105 Try.sizeOf105 rfl rfl) ?_
      refine JL_step0 rfl rfl (jo_store rfl rfl rfl (by first | (simp only [splice_norm]; done) | (simp only [splice_norm]; rfl) | rfl) Try.sizeOf105 rfl rfl) fun _ => ?_
      refine JL_nil ?_
      refine JE_seq ?_
      refine JC_ret ?_
      -- stop: out
      refine JE_out (.inl rfl) ⟨upd kn2 m (choV x.h.lanes (gs xs) m), hg2.upd' rfl⟩ (results1 Try.results79 (res_box rfl Try.isAgg105 Try.sizeOf105 rfl)) rfl pick_perm (fun _ _ => trivial)
end Go.Proofs.Ytkmaafnbefpdjaa

/- Walks of lend: Marks. -/
namespace Go.Proofs.Ytkmaafnbefpdjaa
open Go.RowKit Go.Shelf

theorem markL_fuel (k : Int) (l : List Gr) : ∀ (n n' : Nat) (m : Int), -1 ≤ m → m ≤ 30 → 30 - m ≤ (n : Int) → 30 - m ≤ (n' : Int) → markL k l n m = markL k l n' m
  | 0, 0, m, _, _, _, _ => rfl
  | 0, n' + 1, m, h1, h2, h3, _ => by
    have := choV_next k l h1 h2
    unfold markL
    rw [if_neg (by omega)]
  | n + 1, 0, m, h1, h2, _, h4 => by
    have := choV_next k l h1 h2
    unfold markL
    rw [if_neg (by omega)]
  | n + 1, n' + 1, m, h1, h2, h3, h4 => by
    have := choV_next k l h1 h2
    unfold markL
    by_cases h : (choV k l m).2 < 31
    · rw [if_pos h, if_pos h, markL_fuel k l n n' (choV k l m).2 (by omega) (by omega) (by omega) (by omega)]
    · rw [if_neg h, if_neg h]
/-- The marks from one on. -/
def tailM (k : Int) (l : List Gr) (at_ : Int) : List Int := if at_ < 31 then at_ :: markL k l 31 at_ else []
theorem markL_tail (k : Int) (l : List Gr) {m : Int} (h1 : -1 ≤ m) (h2 : m ≤ 30) : markL k l 31 m = tailM k l (choV k l m).2 := by
  have := choV_next k l h1 h2
  unfold tailM
  conv => lhs; unfold markL
  by_cases h : (choV k l m).2 < 31
  · rw [if_pos h, if_pos h, markL_fuel k l 30 31 (choV k l m).2 (by omega) (by omega) (by omega) (by omega)]
  · rw [if_neg h, if_neg h]
theorem Marks_je (x : Hx) (ga : Option Addr) (gc : Nat) (xs : List Gx) (h : fault x.h (gs xs) ≠ 0) : Cv Try.prog 43 [.agg #[I x.h.lanes, .slice x.a x.h.shoes.length x.c], .slice ga xs.length gc] (KAnd (KHx x) (KGs ga gc xs)) (.tuple #[.slice none 0 0, I (fault x.h (gs xs))]) := by
  refine Cx_of Try.func43 rfl Try.ntmps43 rfl fun w0 M0 => ?_
  refine JC_seq ?_
  refine JC_region ?_
  refine JL_step rfl rfl rfl (jo_box rfl rfl) fun b2 => ?_
  refine JL_pd rfl (det_assign rfl) ?_
  refine JL_pd rfl (det_assign rfl) ?_
  refine JL_nil ?_
  refine JE_seq ?_
  refine JC_seq ?_
  refine JC_region ?_
  refine JL_dt rfl (det_loadKA rfl Try.isAgg30 Try.sizeOf30 rfl rfl) ?_
  refine JL_pd rfl (det_move rfl) ?_
  refine JL_step rfl rfl rfl (jo_callv rfl rfl Try.call59 rfl (work_je x ga gc xs h)) fun _ => ?_
  refine JL_pd rfl (det_move rfl) ?_
  refine JL_pd rfl (det_extract rfl rfl) ?_
  refine JL_pd rfl (det_extract rfl rfl) ?_
  refine JL_step rfl rfl rfl (jo_alloc0 Try.zeroValue84 rfl) fun b6 => ?_
  refine JL_step0 rfl rfl (jo_store rfl rfl rfl (by first | (simp only [splice_norm]; done) | (simp only [splice_norm]; rfl) | rfl) Try.sizeOf84 rfl rfl) fun _ => ?_
  refine JL_pd rfl (det_assign rfl) ?_
  refine JL_nil ?_
  refine JE_seq ?_
  refine JC_seq ?_
  refine JC_seq ?_
  refine JC_region ?_
  refine JL_pd rfl (det_move rfl) ?_
  refine JL_pd rfl (det_neq rfl rfl) ?_
  refine JL_nil ?_
  refine JE_seq ?_
  -- stop: cond
  refine JC_ifn rfl (fun h1 => ?_) (fun h1 => ?_)
  · refine JC_seq ?_
    refine JC_region ?_
    refine JL_pd rfl (det_move rfl) ?_
    refine JL_pd rfl (det_assign rfl) ?_
    refine JL_pd rfl (det_assign rfl) ?_
    refine JL_nil ?_
    refine JE_seq ?_
    refine JC_ret ?_
    refine JE_seq_ret ?_
    -- stop: out
    refine JE_out (.inl rfl) () (results2 Try.results43 (res_tmp rfl) (res_tmp rfl)) rfl (List.Perm.refl _) (fun _ _ => trivial)
  · exact absurd h1 h
set_option maxRecDepth 100000 in
set_option maxHeartbeats 1000000 in
theorem Marks_jo (x : Hx) (ga : Option Addr) (gc : Nat) (xs : List Gx) (h : fault x.h (gs xs) = 0) : Cr Try.prog 43 [.agg #[I x.h.lanes, .slice x.a x.h.shoes.length x.c], .slice ga xs.length gc] (KAnd (KHx x) (KGs ga gc xs)) (fun q : Option Addr × Nat => .tuple #[.slice q.1 (marksV x.h.lanes (gs xs)).length q.2, I 0]) (fun q => KSl q.1 (marksV x.h.lanes (gs xs)).length q.2 encI (marksV x.h.lanes (gs xs))) := by
  have V := vld_of h
  have hl : 0 ≤ x.h.lanes ∧ x.h.lanes ≤ 5 := ⟨V.hs.l0, V.hs.l1⟩
  have hn : xs.length ≤ 8 := by have := V.n; simpa [gs] using this
  refine Cx_of Try.func43 rfl Try.ntmps43 rfl fun w0 M0 => ?_
  refine JC_seq ?_
  refine JC_region ?_
  refine JL_step rfl rfl rfl (jo_box rfl rfl) fun b2 => ?_
  refine JL_pd rfl (det_assign rfl) ?_
  refine JL_pd rfl (det_assign rfl) ?_
  refine JL_nil ?_
  refine JE_seq ?_
  refine JC_seq ?_
  refine JC_region ?_
  refine JL_dt rfl (det_loadKA rfl Try.isAgg30 Try.sizeOf30 rfl rfl) ?_
  refine JL_pd rfl (det_move rfl) ?_
  refine JL_step rfl rfl rfl (jo_call rfl rfl Try.call59 rfl (work_jo x ga gc xs h)) fun x15 => ?_
  refine JL_pd rfl (det_move rfl) ?_
  refine JL_pd rfl (det_extract rfl rfl) ?_
  refine JL_pd rfl (det_extract rfl rfl) ?_
  refine JL_step rfl rfl rfl (jo_alloc0 Try.zeroValue84 rfl) fun b6 => ?_
  refine JL_step0 rfl rfl (jo_store rfl rfl rfl (by first | (simp only [splice_norm]; done) | (simp only [splice_norm]; rfl) | rfl) Try.sizeOf84 rfl rfl) fun _ => ?_
  refine JL_pd rfl (det_assign rfl) ?_
  refine JL_nil ?_
  refine JE_seq ?_
  refine JC_seq ?_
  refine JC_seq ?_
  refine JC_region ?_
  refine JL_pd rfl (det_move rfl) ?_
  refine JL_pd rfl (det_neq rfl rfl) ?_
  refine JL_nil ?_
  refine JE_seq ?_
  -- stop: cond
  refine JC_ifn rfl (fun h1 => ?_) (fun h1 => ?_)
  · exact absurd rfl h1
  refine JC_skip ?_
  refine JE_seq ?_
  refine JC_seq ?_
  refine JC_region ?_
  refine JL_step rfl rfl rfl (jo_makeMap ekI evCh) fun b21 => ?_
  refine JL_step rfl rfl rfl (jo_alloc0 Try.zeroValue102 rfl) fun b8 => ?_
  refine JL_step0 rfl rfl (jo_store rfl rfl rfl (by first | (simp only [splice_norm]; done) | (simp only [splice_norm]; rfl) | rfl) Try.sizeOf102 rfl rfl) fun _ => ?_
  refine JL_nil ?_
  refine JE_seq ?_
  refine JC_seq ?_
  refine JC_region ?_
  refine JL_step rfl rfl rfl (jo_alloc0 Try.zeroValue103 rfl) fun b9 => ?_
  refine JL_nil ?_
  refine JE_seq ?_
  refine JC_seq ?_
  refine JC_region ?_
  refine JL_pd rfl (det_makeFuncE rfl rfl) ?_
  refine JL_step0 rfl rfl (jo_store rfl rfl rfl (by first | (simp only [splice_norm]; done) | (simp only [splice_norm]; rfl) | rfl) Try.sizeOf103 rfl rfl) fun _ => ?_
  refine JL_nil ?_
  refine JE_seq ?_
  refine JC_seq ?_
  refine JC_region ?_
  refine JL_pd rfl (det_assign rfl) ?_
  refine JL_nil ?_
  refine JE_seq ?_
  refine JC_seq ?_
  refine JC_seq ?_
  refine JC_region ?_
  refine JL_keep b9 noFp ?_
  refine JL_keep b8 noFp ?_
  refine JL_keep b6 noFp ?_
  refine JL_keep b2 noFp ?_
  refine JL_dt rfl (det_loadK rfl Try.isAgg103 rfl) ?_
  -- stop: op  1 t24 := (call (Call (value t23) ((neg Int instNegInt 1)) (3)))   <0>   265
  have hfrom := from_j x ga gc xs b8 b21 b6 x15.1 x15.2 b2 b9 hl hn
  refine JL_step rfl rfl rfl (jo_callx rfl rfl Try.call79 rfl (hfrom 31 (-1) (fun _ => none) (by decide) (by decide) rfl (fun _ _ h => by cases h)) (pick_perm)) fun q => ?_
  refine JL_pd rfl (det_field rfl (fld_105_1 _ _)) ?_
  refine JL_pd rfl (det_assign rfl) ?_
  refine JL_nil ?_
  refine JE_seq ?_
  refine JC_block ?_
  -- stop: loop
  refine JC_nil 3 1 ?_
  have hnx := choV_next x.h.lanes (gs xs) (m := -1) (by decide) (by decide)
  refine JC_loopF (γ := Nat × Value × List Int × Int × { kn' // GoodKn x.h.lanes (gs xs) kn' }) (fun q => q.1 ≤ 31 ∧ q.2.2.1.length ≤ q.2.2.2.1.toNat ∧ 0 ≤ q.2.2.2.1 ∧ q.2.2.2.1 ≤ 31 ∧ (31 - q.2.2.2.1).toNat = q.1 ∧ q.2.2.1 ++ tailM x.h.lanes (gs xs) q.2.2.2.1 = marksV x.h.lanes (gs xs)) (fun q => [(11, I q.2.2.2.1), (10, q.2.1)]) (fun q => [ow q.2.1 3 1 q.2.2.1.length (q.2.2.1.flatMap encI), mp b21 ekI evCh q.2.2.2.2.1]) (fun q => q.1) ((31 - (choV x.h.lanes (gs xs) (-1)).2).toNat, .slice none 0 0, [], (choV x.h.lanes (gs xs) (-1)).2, q) ⟨by simp only; omega, Nat.zero_le _, by simp only; omega, by simp only; omega, rfl, (markL_tail _ _ (by decide) (by decide)).symm⟩ (stsub_consI rfl rfl (stsub_cons rfl stsub_nil)) (ht_ow rfl rfl (ht_cons ht_nil)) ?_
  rintro ⟨n, v, ms, at_, kn⟩ ⟨hn1, hml, h01, h02, h03, hms⟩ K hK
  dsimp only [List.cons_append, List.nil_append] at hn1 hml h01 h02 h03 hms ⊢
  refine JC_seq ?_
  refine JC_seq ?_
  refine JC_region ?_
  refine JL_pd rfl (det_move rfl) ?_
  refine JL_pd rfl (det_lss rfl rfl) ?_
  refine JL_nil ?_
  refine JE_seq ?_
  -- stop: cond
  refine JC_if rfl (fun h2 => ?_) (fun h2 => ?_)
  · have hnx := choV_next x.h.lanes (gs xs) (m := at_) (by omega) (by omega)
    have htl : tailM x.h.lanes (gs xs) at_ = at_ :: tailM x.h.lanes (gs xs) (choV x.h.lanes (gs xs) at_).2 := by
      rw [← markL_tail _ _ (by omega) (by omega), tailM, if_pos h2]
    refine JC_skip ?_
    refine JE_seq ?_
    refine JC_seq ?_
    refine JC_block ?_
    refine JC_region ?_
    refine JL_pd rfl (det_move rfl) ?_
    refine JL_pd rfl (det_move rfl) ?_
    refine JL_step rfl rfl rfl (jo_buildSlice rfl (bsl_22_1_0 _)) fun b34 => ?_
    refine JL_step rfl rfl rfl (jo_append el_22 rfl rfl rfl rfl (by omega)) fun b35 => ?_
    refine JL_pd rfl (det_assign rfl) ?_
    refine JL_nil ?_
    refine JE_block ?_
    refine JE_seq ?_
    refine JC_region ?_
    refine JL_dt rfl (det_loadK rfl Try.isAgg103 rfl) ?_
    refine JL_pd rfl (det_move rfl) ?_
    -- stop: op  2 t30 := (call (Call (value t28) (t29) (3)))   <0 1>   265
    refine JL_step rfl rfl rfl (jo_callx rfl rfl Try.call79 rfl (hfrom (30 - at_).toNat at_ kn.1 (by omega) (by omega) rfl kn.2) (pick_perm)) fun q2 => ?_
    refine JL_pd rfl (det_field rfl (fld_105_1 _ _)) ?_
    refine JL_pd rfl (det_assign rfl) ?_
    refine JL_nil ?_
    -- stop: end
    refine JE_roundF hK ((31 - (choV x.h.lanes (gs xs) at_).2).toNat, .slice (some ⟨b35.1, 0, none⟩) (ms.length + 1) b35.2, ms ++ [at_], (choV x.h.lanes (gs xs) at_).2, q2) ⟨by simp only; omega, by simp only [List.length_append, List.length_singleton]; omega, by simp only; omega, by simp only; omega, rfl, by simp only; rw [List.append_assoc, ← hms, htl]; rfl⟩ (by simp only; omega) (stsub_consI rfl rfl (stsub_cons rfl stsub_nil)) (ht_ow (by simp) (by simp [encI]) (ht_cons ht_nil))
  · have hmm : ms = marksV x.h.lanes (gs xs) := by rw [← hms, tailM, if_neg h2, List.append_nil]
    rw [← hmm]
    refine JC_slice (enc := encI) (v := v) ms noFp rfl rfl ?_
    rintro av cv rfl
    refine JC_exit ?_
    refine JE_seq_exit ?_
    refine JE_then_exit ?_
    refine JE_block_here ?_
    refine JE_seq ?_
    refine JC_seq ?_
    refine JC_region ?_
    refine JL_pd rfl (det_move rfl) ?_
    refine JL_pd rfl (det_assign rfl) ?_
    refine JL_pd rfl (det_assign rfl) ?_
    refine JL_nil ?_
    refine JE_seq ?_
    refine JC_ret ?_
    -- stop: out
    refine JE_out (.inl rfl) (av, cv) (results2 Try.results43 (res_tmp rfl) (res_tmp rfl)) rfl (List.Perm.refl _) (fun w h => h.1)
theorem Marks_ce (x : Hx) (q : QH) (xs : List Gx) (g : QG xs) (h : fault x.h (gs xs) ≠ 0) : Cv Try.prog 43 [.agg #[I x.h.lanes, .slice q.1 x.h.shoes.length q.2], .slice g.1 g.2.2.1.length g.2.1] (KAnd (KHx ⟨x.h, q.1, q.2⟩) (KGs g.1 g.2.1 g.2.2.1)) (.tuple #[.slice none 0 0, I (fault x.h (gs xs))]) := by
  have h := Marks_je ⟨x.h, q.1, q.2⟩ g.1 g.2.1 g.2.2.1 (by rw [g.2.2.2]; exact h)
  rwa [g.2.2.2] at h
theorem Marks_c (x : Hx) (q : QH) (xs : List Gx) (g : QG xs) (h : fault x.h (gs xs) = 0) : Cr Try.prog 43 [.agg #[I x.h.lanes, .slice q.1 x.h.shoes.length q.2], .slice g.1 g.2.2.1.length g.2.1] (KAnd (KHx ⟨x.h, q.1, q.2⟩) (KGs g.1 g.2.1 g.2.2.1)) (fun q : QH => .tuple #[.slice q.1 (marksV x.h.lanes (gs xs)).length q.2, I 0]) (fun q => KSl q.1 (marksV x.h.lanes (gs xs)).length q.2 encI (marksV x.h.lanes (gs xs))) := by
  have h := Marks_jo ⟨x.h, q.1, q.2⟩ g.1 g.2.1 g.2.2.1 (by rw [g.2.2.2]; exact h)
  rwa [g.2.2.2] at h
end Go.Proofs.Ytkmaafnbefpdjaa

/- The statements about lend: LendBounds, LendProof. -/
namespace Go.Proofs.Ytkmaafnbefpdjaa
open Go.RowKit Go.Shelf

theorem perm_zip {α : Type} {L l : List α} (h : L.Perm l) : ∀ vs : List Int, vs.length = L.length → ∃ p : List Int, p.length = l.length ∧ (l.zip p).Perm (L.zip vs) := by
  induction h with
  | nil => intro vs hv; exact ⟨[], rfl, by simp⟩
  | cons a h ih =>
    intro vs hv
    cases vs with
    | nil => simp at hv
    | cons v vs =>
      obtain ⟨p, p1, p2⟩ := ih vs (by simpa using hv)
      exact ⟨v :: p, by simp [p1], p2.cons _⟩
  | swap a b l =>
    intro vs hv
    match vs, hv with
    | v :: u :: vs, hv => exact ⟨u :: v :: vs, by simpa using hv, List.Perm.swap _ _ _⟩
  | trans h1 h2 ih1 ih2 =>
    intro vs hv
    obtain ⟨p, p1, p2⟩ := ih1 vs hv
    obtain ⟨q, q1, q2⟩ := ih2 p p1
    exact ⟨q, q1, q2.trans p2⟩
theorem serve_exists (k : Nat) (l : List Gr) (hV : ∀ g ∈ l, VGr g) : ∃ p, ServeFacts k l p := by
  have hp := List.mergeSort_perm l fun a b => decide (a.hi ≤ b.hi)
  obtain ⟨p, p1, p2⟩ := perm_zip hp (gre (List.replicate k (-1)) (l.mergeSort fun a b => decide (a.hi ≤ b.hi))) (by rw [gre_len])
  have hs := List.pairwise_mergeSort (le := fun a b : Gr => decide (a.hi ≤ b.hi)) (fun a b c h1 h2 => by simp at *; omega) (fun a b => by simp; omega) l
  exact ⟨p, serve_facts hV ⟨p1, _, hs.imp fun h => of_decide_eq_true h, p2⟩⟩
set_option maxRecDepth 100000 in
theorem Rising_j (a : Option Addr) (cap : Nat) (xs : List Int) (most : Int) :
    Cv Try.prog 44 [.slice a xs.length cap, I most] (KSl a xs.length cap encI xs) (.bool (risB (fun n => inI n 0 most) xs)) := by
  refine Cx_of Try.func44 rfl Try.ntmps44 rfl fun w0 M0 => ?_
  refine JC_seq ?_
  refine JC_region ?_
  refine JL_pd rfl (det_assign rfl) ?_
  refine JL_nil ?_
  refine JE_seq ?_
  refine JC_seq ?_
  refine JC_seq ?_
  refine JC_region ?_
  refine JL_pd rfl (det_assign rfl) ?_
  refine JL_nil ?_
  refine JE_seq ?_
  refine JC_block ?_
  -- stop: loop
  refine JC_pure (p := xs.length ≤ 9223372036854775807) (by intro w h; exact h.1.bd) fun hz => ?_
  refine JC_loopF (γ := Nat) (fun i => i ≤ xs.length ∧ (xs.take i).all (fun n => inI n 0 most) = true ∧ (xs.take i).Pairwise (· < ·)) (fun i => [(5, I i)]) (fun _ => []) (fun i => xs.length - i) 0 ⟨Nat.zero_le _, rfl, List.Pairwise.nil⟩ (stsub_consI rfl rfl stsub_nil) ht_nil ?_
  rintro i ⟨hi, hall, hup⟩ K hK
  dsimp only [List.cons_append, List.nil_append]
  refine JC_seq ?_
  refine JC_seq ?_
  refine JC_region ?_
  refine JL_pd rfl (det_move rfl) ?_
  refine JL_pd rfl (det_move rfl) ?_
  refine JL_pd rfl (det_len rfl Try.runUnderlying22) ?_
  refine JL_pd rfl (det_lss rfl rfl) ?_
  refine JL_nil ?_
  refine JE_seq ?_
  -- stop: cond
  refine JC_if rfl (fun h1 => ?_) (fun h1 => ?_)
  · have hi2 : i < xs.length := by omega
    have hal2 : inI xs[i] 0 most = true → (xs.take (i + 1)).all (fun n => inI n 0 most) = true := fun h => by rw [take_snoc hi2, List.all_append, hall]; simp [h]
    by_cases c1 : inI xs[i] 0 most = true
    · by_cases c2 : i = 0
      · subst c2
        refine JC_skip ?_
        refine JE_seq ?_
        refine JC_seq ?_
        refine JC_block ?_
        refine JC_seq ?_
        refine JC_draw [] (by kernel_rfl) ?_
        refine JA_pd (i := 0) rfl (by kernel_rfl) rfl rfl (det_move rfl) ?_
        refine JA_pd (i := 1) rfl (by kernel_rfl) rfl rfl (det_move rfl) ?_
        refine JA_dt (i := 2) rfl (by kernel_rfl) (by kernel_rfl) rfl rfl (det_indexAddr rfl rfl (by first | rfl | omega) (by first | assumption | omega | decide) Try.runUnderlying22 Try.sizeOf3) ?_
        refine JA_dt (i := 3) rfl (by kernel_rfl) (by kernel_rfl) rfl rfl (det_loadE rfl (by first | assumption | omega | decide) Try.isAgg3 rfl rfl) ?_
        refine JA_pd (i := 4) rfl (by kernel_rfl) rfl rfl (det_move rfl) ?_
        refine JA_one (i := 5) (by kernel_rfl) rfl rfl (jo_callv rfl rfl Try.call31 rfl (In_j _ _ _)) (fun _ => ⟨hsub_refl, fun _ h => h⟩) fun _ => ?_
        refine JA_pd (i := 6) rfl (by kernel_rfl) rfl rfl (det_not rfl) ?_
        refine JA_pd (i := 7) rfl (by kernel_rfl) rfl rfl (det_move rfl) ?_
        -- stop: guard 7
        refine JA_is (d0 := 19) false rfl (by rw [c1]; rfl) (fun g1 => ?_)
        refine JA_gpd (i := 8) rfl (by kernel_rfl) rfl rfl rfl rfl g1 (det_move rfl) ?_
        refine JA_gpd (i := 9) rfl (by kernel_rfl) rfl rfl rfl rfl g1 (det_gtr rfl rfl) ?_
        refine JA_gpd (i := 10) rfl (by kernel_rfl) rfl rfl rfl rfl g1 (det_move rfl) ?_
        -- stop: guard 10
        refine JA_is (d0 := 22) false rfl (by rfl) (fun g2 => ?_)
        refine JA_skip (i := 11) rfl (by kernel_rfl) rfl rfl rfl rfl g2 ?_
        refine JA_skip (i := 12) rfl (by kernel_rfl) rfl rfl rfl rfl g2 ?_
        refine JA_skip (i := 13) rfl (by kernel_rfl) rfl rfl rfl rfl g2 ?_
        refine JA_skip (i := 14) rfl (by kernel_rfl) rfl rfl rfl rfl g2 ?_
        refine JA_skip (i := 15) rfl (by kernel_rfl) rfl rfl rfl rfl g2 ?_
        refine JA_skip (i := 16) rfl (by kernel_rfl) rfl rfl rfl rfl g2 ?_
        refine JA_skip (i := 17) rfl (by kernel_rfl) rfl rfl rfl rfl g2 ?_
        refine JA_skip (i := 18) rfl (by kernel_rfl) rfl rfl rfl rfl g2 ?_
        refine JA_skip (i := 19) rfl (by kernel_rfl) rfl rfl rfl rfl g2 ?_
        refine JA_skip (i := 20) rfl (by kernel_rfl) rfl rfl rfl rfl g2 ?_
        refine JA_gpd (i := 21) rfl (by kernel_rfl) rfl rfl rfl rfl g1 (det_pick_f rfl g2 rfl) ?_
        refine JA_pd (i := 22) rfl (by kernel_rfl) rfl rfl (det_pick_f rfl g1 rfl) ?_
        refine JA_done (by kernel_rfl) ?_
        refine JE_seq ?_
        refine JC_condF rfl rfl ?_
        refine JC_skip ?_
        refine JE_block ?_
        refine JE_seq ?_
        refine JC_region ?_
        refine JL_pd rfl (det_move rfl) ?_
        refine JL_pd rfl (det_add rfl rfl ⟨by omega, by omega⟩) ?_
        refine JL_pd rfl (det_assign rfl) ?_
        refine JL_nil ?_
        -- stop: end
        refine JE_roundF hK (0 + 1) ⟨by omega, hal2 c1, up_snoc hi2 hup (.inl rfl)⟩ (by omega) (stsub_consI rfl (by omega) stsub_nil) ht_nil
      · obtain ⟨j, rfl⟩ : ∃ j, i = j + 1 := ⟨i - 1, by omega⟩
        have hj2 : j < xs.length := by omega
        refine JC_skip ?_
        refine JE_seq ?_
        refine JC_seq ?_
        refine JC_block ?_
        refine JC_seq ?_
        refine JC_draw [] (by kernel_rfl) ?_
        refine JA_pd (i := 0) rfl (by kernel_rfl) rfl rfl (det_move rfl) ?_
        refine JA_pd (i := 1) rfl (by kernel_rfl) rfl rfl (det_move rfl) ?_
        refine JA_dt (i := 2) rfl (by kernel_rfl) (by kernel_rfl) rfl rfl (det_indexAddr rfl rfl (by first | rfl | omega) (by first | assumption | omega | decide) Try.runUnderlying22 Try.sizeOf3) ?_
        refine JA_dt (i := 3) rfl (by kernel_rfl) (by kernel_rfl) rfl rfl (det_loadE rfl (by first | assumption | omega | decide) Try.isAgg3 rfl rfl) ?_
        refine JA_pd (i := 4) rfl (by kernel_rfl) rfl rfl (det_move rfl) ?_
        refine JA_one (i := 5) (by kernel_rfl) rfl rfl (jo_callv rfl rfl Try.call31 rfl (In_j _ _ _)) (fun _ => ⟨hsub_refl, fun _ h => h⟩) fun _ => ?_
        refine JA_pd (i := 6) rfl (by kernel_rfl) rfl rfl (det_not rfl) ?_
        refine JA_pd (i := 7) rfl (by kernel_rfl) rfl rfl (det_move rfl) ?_
        -- stop: guard 7
        refine JA_is (d0 := 19) false rfl (by rw [c1]; rfl) (fun g1 => ?_)
        refine JA_gpd (i := 8) rfl (by kernel_rfl) rfl rfl rfl rfl g1 (det_move rfl) ?_
        refine JA_gpd (i := 9) rfl (by kernel_rfl) rfl rfl rfl rfl g1 (det_gtr rfl rfl) ?_
        refine JA_gpd (i := 10) rfl (by kernel_rfl) rfl rfl rfl rfl g1 (det_move rfl) ?_
        -- stop: guard 10
        refine JA_is (d0 := 22) true rfl (by exact decide_eq_true (by omega)) (fun g2 => ?_)
        refine JA_gpd (i := 11) rfl (by kernel_rfl) rfl rfl rfl rfl g2 (det_move rfl) ?_
        refine JA_gpd (i := 12) rfl (by kernel_rfl) rfl rfl rfl rfl g2 (det_move rfl) ?_
        refine JA_gdt (i := 13) rfl (by kernel_rfl) (by kernel_rfl) rfl rfl rfl rfl g2 (det_indexAddr rfl rfl (by first | rfl | omega) (by first | assumption | omega | decide) Try.runUnderlying22 Try.sizeOf3) ?_
        refine JA_gdt (i := 14) rfl (by kernel_rfl) (by kernel_rfl) rfl rfl rfl rfl g2 (det_loadE rfl (by first | assumption | omega | decide) Try.isAgg3 rfl rfl) ?_
        refine JA_gpd (i := 15) rfl (by kernel_rfl) rfl rfl rfl rfl g2 (det_move rfl) ?_
        refine JA_gpd (i := 16) rfl (by kernel_rfl) rfl rfl rfl rfl g2 (det_move rfl) ?_
        refine JA_gpd (i := 17) rfl (by kernel_rfl) rfl rfl rfl rfl g2 (det_sub rfl rfl ⟨by omega, by omega⟩) ?_
        refine JA_gdt (i := 18) rfl (by kernel_rfl) (by kernel_rfl) rfl rfl rfl rfl g2 (det_indexAddr (i := j) rfl rfl (by omega) (by omega) Try.runUnderlying22 Try.sizeOf3) ?_
        refine JA_gdt (i := 19) rfl (by kernel_rfl) (by kernel_rfl) rfl rfl rfl rfl g2 (det_loadE rfl (by first | assumption | omega | decide) Try.isAgg3 rfl rfl) ?_
        refine JA_gpd (i := 20) rfl (by kernel_rfl) rfl rfl rfl rfl g2 (det_leq rfl rfl) ?_
        refine JA_gpd (i := 21) rfl (by kernel_rfl) rfl rfl rfl rfl g1 (det_pick_t rfl g2 rfl) ?_
        refine JA_pd (i := 22) rfl (by kernel_rfl) rfl rfl (det_pick_f rfl g1 rfl) ?_
        refine JA_done (by kernel_rfl) ?_
        refine JE_seq ?_
        -- stop: cond
        refine JC_cond rfl (fun h3 => ?_) (fun h3 => ?_)
        · refine JC_seq ?_
          refine JC_region ?_
          refine JL_pd rfl (det_assign rfl) ?_
          refine JL_nil ?_
          refine JE_seq ?_
          refine JC_ret ?_
          refine JE_block_ret ?_
          refine JE_seq_ret ?_
          refine JE_then_ret ?_
          refine JE_block_ret ?_
          refine JE_seq_ret ?_
          -- stop: out
          have := of_decide_eq_true h3
          refine JE_out (.inl rfl) () (results1 Try.results44 (res_tmp rfl)) (by have := up_no hi2 rfl this; unfold risB; rw [decide_eq_false this, Bool.and_false]) (List.Perm.refl _) (fun _ _ => trivial)
        · refine JC_skip ?_
          refine JE_block ?_
          refine JE_seq ?_
          refine JC_region ?_
          refine JL_pd rfl (det_move rfl) ?_
          refine JL_pd rfl (det_add rfl rfl ⟨by omega, by omega⟩) ?_
          refine JL_pd rfl (det_assign rfl) ?_
          refine JL_nil ?_
          -- stop: end
          have := of_decide_eq_false h3
          refine JE_roundF hK (j + 1 + 1) ⟨by omega, hal2 c1, up_snoc hi2 hup (.inr ⟨j, by omega, rfl, by omega⟩)⟩ (by omega) (stsub_consI rfl (by omega) stsub_nil) ht_nil
    · refine JC_skip ?_
      refine JE_seq ?_
      refine JC_seq ?_
      refine JC_block ?_
      refine JC_seq ?_
      refine JC_draw [] (by kernel_rfl) ?_
      refine JA_pd (i := 0) rfl (by kernel_rfl) rfl rfl (det_move rfl) ?_
      refine JA_pd (i := 1) rfl (by kernel_rfl) rfl rfl (det_move rfl) ?_
      refine JA_dt (i := 2) rfl (by kernel_rfl) (by kernel_rfl) rfl rfl (det_indexAddr rfl rfl (by first | rfl | omega) (by first | assumption | omega | decide) Try.runUnderlying22 Try.sizeOf3) ?_
      refine JA_dt (i := 3) rfl (by kernel_rfl) (by kernel_rfl) rfl rfl (det_loadE rfl (by first | assumption | omega | decide) Try.isAgg3 rfl rfl) ?_
      refine JA_pd (i := 4) rfl (by kernel_rfl) rfl rfl (det_move rfl) ?_
      refine JA_one (i := 5) (by kernel_rfl) rfl rfl (jo_callv rfl rfl Try.call31 rfl (In_j _ _ _)) (fun _ => ⟨hsub_refl, fun _ h => h⟩) fun _ => ?_
      refine JA_pd (i := 6) rfl (by kernel_rfl) rfl rfl (det_not rfl) ?_
      refine JA_pd (i := 7) rfl (by kernel_rfl) rfl rfl (det_move rfl) ?_
      -- stop: guard 7
      refine JA_is (d0 := 19) true rfl (by simpa using c1) (fun g1 => ?_)
      refine JA_skip (i := 8) rfl (by kernel_rfl) rfl rfl rfl rfl g1 ?_
      refine JA_skip (i := 9) rfl (by kernel_rfl) rfl rfl rfl rfl g1 ?_
      refine JA_skip (i := 10) rfl (by kernel_rfl) rfl rfl rfl rfl g1 ?_
      refine JA_skipU (i := 11) rfl (by kernel_rfl) rfl rfl rfl rfl ?_
      refine JA_skipU (i := 12) rfl (by kernel_rfl) rfl rfl rfl rfl ?_
      refine JA_skipU (i := 13) rfl (by kernel_rfl) rfl rfl rfl rfl ?_
      refine JA_skipU (i := 14) rfl (by kernel_rfl) rfl rfl rfl rfl ?_
      refine JA_skipU (i := 15) rfl (by kernel_rfl) rfl rfl rfl rfl ?_
      refine JA_skipU (i := 16) rfl (by kernel_rfl) rfl rfl rfl rfl ?_
      refine JA_skipU (i := 17) rfl (by kernel_rfl) rfl rfl rfl rfl ?_
      refine JA_skipU (i := 18) rfl (by kernel_rfl) rfl rfl rfl rfl ?_
      refine JA_skipU (i := 19) rfl (by kernel_rfl) rfl rfl rfl rfl ?_
      refine JA_skipU (i := 20) rfl (by kernel_rfl) rfl rfl rfl rfl ?_
      refine JA_skip (i := 21) rfl (by kernel_rfl) rfl rfl rfl rfl g1 ?_
      refine JA_pd (i := 22) rfl (by kernel_rfl) rfl rfl (det_pick_t rfl g1 rfl) ?_
      refine JA_done (by kernel_rfl) ?_
      refine JE_seq ?_
      refine JC_condT rfl rfl ?_
      refine JC_seq ?_
      refine JC_region ?_
      refine JL_pd rfl (det_assign rfl) ?_
      refine JL_nil ?_
      refine JE_seq ?_
      refine JC_ret ?_
      refine JE_block_ret ?_
      refine JE_seq_ret ?_
      refine JE_then_ret ?_
      refine JE_block_ret ?_
      refine JE_seq_ret ?_
      -- stop: out
      refine JE_out (.inl rfl) () (results1 Try.results44 (res_tmp rfl)) (by unfold risB; rw [List.all_eq_false.2 ⟨xs[i], List.getElem_mem hi2, c1⟩, Bool.false_and]) (List.Perm.refl _) (fun _ _ => trivial)
  · refine JC_exit ?_
    refine JE_seq_exit ?_
    refine JE_then_exit ?_
    refine JE_block_here ?_
    refine JE_seq ?_
    refine JC_seq ?_
    refine JC_region ?_
    refine JL_pd rfl (det_assign rfl) ?_
    refine JL_nil ?_
    refine JE_seq ?_
    refine JC_ret ?_
    -- stop: out
    obtain rfl : i = xs.length := by omega
    rw [List.take_length] at hall hup
    refine JE_out (.inl rfl) () (results1 Try.results44 (res_tmp rfl)) (by unfold risB; rw [hall, decide_eq_true hup]; rfl) (List.Perm.refl _) (fun _ _ => trivial)
set_option maxRecDepth 100000 in
theorem RBound_j (x : Hx) (ga : Option Addr) (gc : Nat) (xs : List Gx) (a : Option Addr) (cap : Nat) (T : List Int) (hl : 0 ≤ x.h.lanes ∧ x.h.lanes ≤ 5) (hn : xs.length ≤ 8) (hT : T.length ≤ 1000) :
    Cv Try.prog 45 [.agg #[I x.h.lanes, .slice x.a x.h.shoes.length x.c], .slice ga xs.length gc, .slice a T.length cap] (KAnd (KSl ga xs.length gc encG xs) (KSl a T.length cap encI T)) (I ((boundL x.h.lanes.toNat (gs xs) T : Nat) : Int)) := by
  have hm : 0 ≤ x.h.lanes * (T.length : Int) ∧ x.h.lanes * (T.length : Int) ≤ 5000 := ⟨Int.mul_nonneg hl.1 (by omega), by have := Int.mul_le_mul hl.2 (show (T.length : Int) ≤ 1000 by omega) (by omega) (by omega); omega⟩
  refine Cx_of Try.func45 rfl Try.ntmps45 rfl fun w0 M0 => ?_
  refine JC_seq ?_
  refine JC_region ?_
  refine JL_step rfl rfl rfl (jo_box rfl rfl) fun b3 => ?_
  refine JL_pd rfl (det_assign rfl) ?_
  refine JL_nil ?_
  refine JE_seq ?_
  refine JC_seq ?_
  refine JC_region ?_
  refine JL_pd rfl (det_fieldAddr rfl fo_24_0) ?_
  refine JL_dt rfl (det_loadK rfl Try.isAgg3 rfl) ?_
  refine JL_pd rfl (det_move rfl) ?_
  refine JL_pd rfl (det_len rfl Try.runUnderlying22) ?_
  refine JL_pd rfl (det_mul rfl rfl ⟨by omega, by omega⟩) ?_
  refine JL_pd rfl (det_assign rfl) ?_
  refine JL_nil ?_
  refine JE_seq ?_
  refine JC_seq ?_
  refine JC_seq ?_
  refine JC_region ?_
  refine JL_pd rfl (det_assign rfl) ?_
  refine JL_nil ?_
  refine JE_seq ?_
  refine JC_block ?_
  -- stop: loop
  refine JC_loopF (γ := Nat) (fun i => i ≤ xs.length) (fun i => [(8, I i), (7, I (x.h.lanes * (T.length : Int) + ((xs.take i).countP fun y => !hit T y.g : Nat)))]) (fun _ => []) (fun i => xs.length - i) 0 (Nat.zero_le _) (stsub_consI rfl rfl (stsub_consI rfl (by simp) stsub_nil)) ht_nil ?_
  intro i hi K hK
  dsimp only [List.cons_append, List.nil_append]
  have hcl : (xs.take i).countP (fun y => !hit T y.g) ≤ xs.length := Nat.le_trans List.countP_le_length (by rw [List.length_take]; omega)
  refine JC_seq ?_
  refine JC_seq ?_
  refine JC_region ?_
  refine JL_pd rfl (det_move rfl) ?_
  refine JL_pd rfl (det_move rfl) ?_
  refine JL_pd rfl (det_len rfl Try.runUnderlying25) ?_
  refine JL_pd rfl (det_lss rfl rfl) ?_
  refine JL_nil ?_
  refine JE_seq ?_
  -- stop: cond
  refine JC_if rfl (fun h1 => ?_) (fun h1 => ?_)
  · have hi2 : i < xs.length := by omega
    have hs := countP_snoc (fun y : Gx => !hit T y.g) xs i hi2
    refine JC_skip ?_
    refine JE_seq ?_
    refine JC_seq ?_
    refine JC_block ?_
    refine JC_seq ?_
    refine JC_region ?_
    refine JL_pd rfl (det_assign rfl) ?_
    refine JL_nil ?_
    refine JE_seq ?_
    refine JC_seq ?_
    refine JC_seq ?_
    refine JC_region ?_
    refine JL_pd rfl (det_assign rfl) ?_
    refine JL_nil ?_
    refine JE_seq ?_
    refine JC_block ?_
    -- stop: loop
    refine JC_loopF (γ := Nat) (fun k => k ≤ T.length) (fun k => [(10, I k), (9, .bool ((T.take k).any fun t => stays xs[i].g t))]) (fun _ => []) (fun k => T.length - k) 0 (Nat.zero_le _) (stsub_consI rfl rfl (stsub_consB rfl rfl stsub_nil)) ht_nil ?_
    intro k hk K1 hK1
    dsimp only [List.cons_append, List.nil_append]
    generalize hb : ((T.take k).any fun t => stays xs[i].g t) = b
    refine JC_seq ?_
    refine JC_seq ?_
    refine JC_region ?_
    refine JL_pd rfl (det_move rfl) ?_
    refine JL_pd rfl (det_move rfl) ?_
    refine JL_pd rfl (det_len rfl Try.runUnderlying22) ?_
    refine JL_pd rfl (det_lss rfl rfl) ?_
    refine JL_nil ?_
    refine JE_seq ?_
    -- stop: cond
    refine JC_if rfl (fun h2 => ?_) (fun h2 => ?_)
    · have hk2 : k < T.length := by omega
      have hsn : ((T.take (k + 1)).any fun t => stays xs[i].g t) = (b || stays xs[i].g T[k]) := by rw [take_snoc hk2, List.any_append, hb]; simp
      cases b with
      | true =>
        refine JC_skip ?_
        refine JE_seq ?_
        refine JC_seq ?_
        refine JC_block ?_
        refine JC_draw [] (by kernel_rfl) ?_
        refine JA_pd (i := 0) rfl (by kernel_rfl) rfl rfl (det_move rfl) ?_
        refine JA_pd (i := 1) rfl (by kernel_rfl) rfl rfl (det_move rfl) ?_
        -- stop: guard 1
        refine JA_is (d0 := 29) true rfl (by rfl) (fun g1 => ?_)
        refine JA_skip (i := 2) rfl (by kernel_rfl) rfl rfl rfl rfl g1 ?_
        refine JA_skip (i := 3) rfl (by kernel_rfl) rfl rfl rfl rfl g1 ?_
        refine JA_skip (i := 4) rfl (by kernel_rfl) rfl rfl rfl rfl g1 ?_
        refine JA_skip (i := 5) rfl (by kernel_rfl) rfl rfl rfl rfl g1 ?_
        refine JA_skip (i := 6) rfl (by kernel_rfl) rfl rfl rfl rfl g1 ?_
        refine JA_skip (i := 7) rfl (by kernel_rfl) rfl rfl rfl rfl g1 ?_
        refine JA_skip (i := 8) rfl (by kernel_rfl) rfl rfl rfl rfl g1 ?_
        refine JA_skip (i := 9) rfl (by kernel_rfl) rfl rfl rfl rfl g1 ?_
        refine JA_skip (i := 10) rfl (by kernel_rfl) rfl rfl rfl rfl g1 ?_
        refine JA_pd (i := 11) rfl (by kernel_rfl) rfl rfl (det_pick_t rfl g1 rfl) ?_
        refine JA_pd (i := 12) rfl (by kernel_rfl) rfl rfl (det_assign rfl) ?_
        refine JA_done (by kernel_rfl) ?_
        refine JE_block ?_
        refine JE_seq ?_
        refine JC_region ?_
        refine JL_pd rfl (det_move rfl) ?_
        refine JL_pd rfl (det_add rfl rfl ⟨by omega, by omega⟩) ?_
        refine JL_pd rfl (det_assign rfl) ?_
        refine JL_nil ?_
        -- stop: end
        refine JE_roundF hK1 (k + 1) (by omega) (by omega) (stsub_consI rfl (by omega) (stsub_consB rfl (by rw [hsn]; rfl) stsub_nil)) ht_nil
      | false =>
        refine JC_skip ?_
        refine JE_seq ?_
        refine JC_seq ?_
        refine JC_block ?_
        refine JC_draw [] (by kernel_rfl) ?_
        refine JA_pd (i := 0) rfl (by kernel_rfl) rfl rfl (det_move rfl) ?_
        refine JA_pd (i := 1) rfl (by kernel_rfl) rfl rfl (det_move rfl) ?_
        -- stop: guard 1
        refine JA_is (d0 := 29) false rfl (by rfl) (fun g1 => ?_)
        refine JA_gpd (i := 2) rfl (by kernel_rfl) rfl rfl rfl rfl g1 (det_move rfl) ?_
        refine JA_gpd (i := 3) rfl (by kernel_rfl) rfl rfl rfl rfl g1 (det_move rfl) ?_
        refine JA_gdt (i := 4) rfl (by kernel_rfl) (by kernel_rfl) rfl rfl rfl rfl g1 (det_indexAddr rfl rfl (by first | rfl | omega) (by first | assumption | omega | decide) Try.runUnderlying25 Try.sizeOf55) ?_
        refine JA_gdt (i := 5) rfl (by kernel_rfl) (by kernel_rfl) rfl rfl rfl rfl g1 (det_loadEA rfl (by first | assumption | omega | decide) Try.isAgg55 Try.sizeOf55 rfl rfl rfl) ?_
        refine JA_gpd (i := 6) rfl (by kernel_rfl) rfl rfl rfl rfl g1 (det_move rfl) ?_
        refine JA_gpd (i := 7) rfl (by kernel_rfl) rfl rfl rfl rfl g1 (det_move rfl) ?_
        refine JA_gdt (i := 8) rfl (by kernel_rfl) (by kernel_rfl) rfl rfl rfl rfl g1 (det_indexAddr rfl rfl (by first | rfl | omega) (by first | assumption | omega | decide) Try.runUnderlying22 Try.sizeOf3) ?_
        refine JA_gdt (i := 9) rfl (by kernel_rfl) (by kernel_rfl) rfl rfl rfl rfl g1 (det_loadE rfl (by first | assumption | omega | decide) Try.isAgg3 rfl rfl) ?_
        refine JA_gone (i := 10) (by kernel_rfl) rfl rfl rfl g1 rfl (jo_callv rfl rfl Try.call68 rfl (Stays_j _ _)) (fun _ => ⟨hsub_refl, fun _ h => h⟩) fun _ => ?_
        refine JA_pd (i := 11) rfl (by kernel_rfl) rfl rfl (det_pick_f rfl g1 rfl) ?_
        refine JA_pd (i := 12) rfl (by kernel_rfl) rfl rfl (det_assign rfl) ?_
        refine JA_done (by kernel_rfl) ?_
        refine JE_block ?_
        refine JE_seq ?_
        refine JC_region ?_
        refine JL_pd rfl (det_move rfl) ?_
        refine JL_pd rfl (det_add rfl rfl ⟨by omega, by omega⟩) ?_
        refine JL_pd rfl (det_assign rfl) ?_
        refine JL_nil ?_
        -- stop: end
        refine JE_roundF hK1 (k + 1) (by omega) (by omega) (stsub_consI rfl (by omega) (stsub_consB rfl (by rw [hsn]; rfl) stsub_nil)) ht_nil
    · obtain rfl : k = T.length := by omega
      rw [List.take_length] at hb
      have hb' : hit T xs[i].g = b := hb
      refine JC_exit ?_
      refine JE_seq_exit ?_
      refine JE_then_exit ?_
      refine JE_block_here ?_
      refine JE_seq ?_
      refine JC_seq ?_
      refine JC_region ?_
      refine JL_pd rfl (det_move rfl) ?_
      refine JL_pd rfl (det_not rfl) ?_
      refine JL_nil ?_
      refine JE_seq ?_
      -- stop: cond
      refine JC_cond rfl (fun h3 => ?_) (fun h3 => ?_)
      · refine JC_region ?_
        refine JL_pd rfl (det_move rfl) ?_
        refine JL_pd rfl (det_add rfl rfl ⟨by omega, by omega⟩) ?_
        refine JL_pd rfl (det_assign rfl) ?_
        refine JL_nil ?_
        refine JE_block ?_
        refine JE_seq ?_
        refine JC_region ?_
        refine JL_pd rfl (det_move rfl) ?_
        refine JL_pd rfl (det_add rfl rfl ⟨by omega, by omega⟩) ?_
        refine JL_pd rfl (det_assign rfl) ?_
        refine JL_nil ?_
        -- stop: end
        rw [if_pos (by rw [hb']; exact h3)] at hs
        refine JE_roundF hK (i + 1) (by omega) (by omega) (stsub_consI rfl (by omega) (stsub_consI rfl (by omega) stsub_nil)) ht_nil
      · refine JC_skip ?_
        refine JE_block ?_
        refine JE_seq ?_
        refine JC_region ?_
        refine JL_pd rfl (det_move rfl) ?_
        refine JL_pd rfl (det_add rfl rfl ⟨by omega, by omega⟩) ?_
        refine JL_pd rfl (det_assign rfl) ?_
        refine JL_nil ?_
        -- stop: end
        rw [if_neg (by rw [hb', h3]; decide)] at hs
        refine JE_roundF hK (i + 1) (by omega) (by omega) (stsub_consI rfl (by omega) (stsub_consI rfl (by omega) stsub_nil)) ht_nil
  · refine JC_exit ?_
    refine JE_seq_exit ?_
    refine JE_then_exit ?_
    refine JE_block_here ?_
    refine JE_seq ?_
    refine JC_seq ?_
    refine JC_region ?_
    refine JL_pd rfl (det_move rfl) ?_
    refine JL_pd rfl (det_assign rfl) ?_
    refine JL_nil ?_
    refine JE_seq ?_
    refine JC_ret ?_
    -- stop: out
    obtain rfl : i = xs.length := by omega
    rw [List.take_length]
    have hc : (gs xs).countP (fun g => !hit T g) = xs.countP fun y => !hit T y.g := by rw [gs, countP_map']
    refine JE_out (.inl rfl) () (results1 Try.results45 (res_tmp rfl)) (by unfold boundL; rw [hc]; congr 1; rw [Int.natCast_add, Int.natCast_mul, Int.toNat_of_nonneg hl.1]) (List.Perm.refl _) (fun _ _ => trivial)
theorem marks_risB {k : Nat} {l : List Gr} {p : List Int} (hV : ∀ g ∈ l, VGr g) (h : ServeFacts k l p) : risB (fun n => inI n 0 30) (marksV k l) = true := by
  obtain ⟨m1, m2, _⟩ := marks_facts hV h
  unfold risB
  rw [decide_eq_true m1, Bool.and_true, List.all_eq_true]
  exact fun t ht => inI_iff.2 (m2 t ht)
set_option maxRecDepth 100000 in
set_option maxHeartbeats 1000000 in
theorem LendBounds_j (x : Hx) (ga : Option Addr) (gc : Nat) (xs : List Gx) (a : Option Addr) (cap : Nat) (T : List Int) : Cv Try.prog 10 [.agg #[I x.h.lanes, .slice x.a x.h.shoes.length x.c], .slice ga xs.length gc, .slice a T.length cap] (KAnd (KHx x) (KAnd (KGs ga gc xs) (KSl a T.length cap encI T))) (.bool true) := by
  refine Cx_of Try.func10 rfl Try.ntmps10 rfl fun w0 M0 => ?_
  refine JC_seq ?_
  refine JC_region ?_
  refine JL_step rfl rfl rfl (jo_box rfl rfl) fun b3 => ?_
  refine JL_pd rfl (det_assign rfl) ?_
  refine JL_nil ?_
  refine JE_seq ?_
  refine JC_seq ?_
  refine JC_seq ?_
  refine JC_region ?_
  refine JL_dt rfl (det_loadKA rfl Try.isAgg24 Try.sizeOf24 rfl rfl) ?_
  refine JL_pd rfl (det_move rfl) ?_
  refine JL_step rfl rfl rfl (jo_callv rfl rfl Try.call16 rfl (Thin_j x ga gc xs)) fun _ => ?_
  refine JL_pd rfl (det_not rfl) ?_
  refine JL_pd rfl (det_move rfl) ?_
  -- stop: guard 4
  refine JL_join1 4 20 (.bool (!thinB x.h (gs xs) || decide ((40 : Int) < (T.length : Int)))) (fun hj => ?_) ?_
  · refine JL_split (d0 := 16) rfl (fun q1 => ?_) (fun q1 => ?_)
    · refine JL_skip rfl rfl q1 rfl ?_
      refine JL_skip rfl rfl q1 rfl ?_
      refine JL_skip rfl rfl q1 rfl ?_
      refine JL_pd rfl (det_pick_t rfl q1 rfl) ?_
      exact hj (by kernel_rfl) (stsub_consB rfl (by clear hj; first | rfl | (simp only [q1, Bool.and_true, Bool.true_and, Bool.false_and, Bool.and_false, Bool.or_true, Bool.true_or, Bool.or_false, Bool.false_or, Bool.not_true, Bool.not_false]; done) | (simp [q1]; done) | (simp at q1; done) | (simp [q1] <;> omega) | (exfalso; simp at q1; omega)) stsub_nil)
    · refine JL_guard rfl rfl q1 ?_
      refine JL_pd rfl (det_move rfl) ?_
      refine JL_guard rfl rfl q1 ?_
      refine JL_pd rfl (det_len rfl Try.runUnderlying22) ?_
      refine JL_guard rfl rfl q1 ?_
      refine JL_pd rfl (det_gtr rfl rfl) ?_
      refine JL_pd rfl (det_pick_f rfl q1 rfl) ?_
      exact hj (by kernel_rfl) (stsub_consB rfl (by clear hj; first | rfl | (simp only [q1, Bool.and_true, Bool.true_and, Bool.false_and, Bool.and_false, Bool.or_true, Bool.true_or, Bool.or_false, Bool.false_or, Bool.not_true, Bool.not_false]; done) | (simp [q1]; done) | (simp at q1; done) | (simp [q1] <;> omega) | (exfalso; simp at q1; omega)) stsub_nil)
  refine JL_nil ?_
  refine JE_seq ?_
  -- stop: cond
  refine JC_cond rfl (fun h1 => ?_) (fun h1 => ?_)
  · refine JC_seq ?_
    refine JC_region ?_
    refine JL_step rfl rfl rfl (jo_callv rfl rfl Try.call17 rfl (awake_j)) fun _ => ?_
    refine JL_pd rfl (det_assign rfl) ?_
    refine JL_nil ?_
    refine JE_seq ?_
    refine JC_ret ?_
    refine JE_seq_ret ?_
    -- stop: out
    refine JE_out (.inl rfl) () (results1 Try.results10 (res_tmp rfl)) rfl (List.Perm.refl _) (fun _ _ => trivial)
  · simp only [Bool.or_eq_false_iff, Bool.not_eq_false', decide_eq_false_iff_not] at h1
    obtain ⟨h1, h2⟩ := h1
    obtain ⟨t1, t2, t3⟩ := thin_lens h1
    have hgl : (gs xs).length = xs.length := List.length_map _
    rw [hgl] at t2
    have hTl : T.length ≤ 40 := by omega
    have hft : ∀ y ∈ xs, y.g.feet.length ≤ 1000 := fun y hy => by have := t3 y.g (List.mem_map.2 ⟨y, hy, rfl⟩); omega
    by_cases c1 : fault x.h (gs xs) = 0
    · have V := vld_of c1
      have hl0 := V.hs.l0
      have hl1 := V.hs.l1
      have hn8 : xs.length ≤ 8 := by have := V.n; rwa [hgl] at this
      obtain ⟨k, hk⟩ : ∃ k : Nat, x.h.lanes.toNat = k := ⟨_, rfl⟩
      have hkk : x.h.lanes = (k : Int) := by omega
      obtain ⟨p, hF⟩ := serve_exists k (gs xs) V.gr
      obtain ⟨m1, m2, m3⟩ := marks_facts V.gr hF
      have hri := marks_risB V.gr hF
      have hmk := Marks_c x
      rw [← hkk] at m1 m2 m3 hri
      have hbnd := fun (q : QH) (g : QG xs) (c : QH) => Bound_c x q xs g T c.1 c.2 c1 (by omega)
      have hris := fun (a : Option Addr) (c : Nat) => Rising_j a c (marksV x.h.lanes (gs xs)) 30
      rw [hri] at hris
      have hml : (marksV x.h.lanes (gs xs)).length ≤ 31 := by
        have hnd : (marksV x.h.lanes (gs xs)).Nodup := m1.imp fun h => by omega
        have := nodup_len hnd (l' := (List.range 31).map fun n : Nat => (n : Int)) fun t ht => by
          have := m2 t ht
          exact List.mem_map.2 ⟨t.toNat, List.mem_range.2 (by omega), by omega⟩
        simpa using this
      have hrb := fun (a : Option Addr) (c : Nat) => RBound_j x ga gc xs a c (marksV x.h.lanes (gs xs)) ⟨hl0, hl1⟩ hn8 (by omega)
      rw [hk, m3] at hrb
      have hmo := (Most_j x ga gc xs k hkk (by omega) V.gr (by omega) xs.length [] none 0 (by simp)).mono (pre' := KSl ga xs.length gc encG xs) (fun w hw => ⟨hw, KSl_none w⟩) (fun _ _ h => h)
      have hme : mostV k (gs xs) xs.length [] = (served p : Nat) := by rw [← hgl]; exact most_eq hF
      rw [hme] at hmo
      have hrisT := Rising_j a cap T 30
      have hrbT := RBound_j x ga gc xs a cap T ⟨hl0, hl1⟩ hn8 (by omega)
      by_cases c2 : risB (fun n => inI n 0 30) T = true
      · have hbe : boundE x (gs xs) T = .tuple #[I ((boundL x.h.lanes.toNat (gs xs) T : Nat) : Int), I 0] := if_pos c2
        simp only [hbe] at hbnd
        rw [c2] at hrisT
        refine JC_skip ?_
        refine JE_seq ?_
        refine JC_seq ?_
        refine JC_region ?_
        refine JL_dt rfl (det_loadKA rfl Try.isAgg24 Try.sizeOf24 rfl rfl) ?_
        refine JL_step rfl rfl rfl (jo_call rfl rfl Try.call19 rfl (lHouse_j x (by omega))) fun x24 => ?_
        refine JL_pd rfl (det_move rfl) ?_
        refine JL_step rfl rfl rfl (jo_call rfl rfl Try.call20 rfl (lGroups_j ga gc xs (by omega) hft)) fun x26 => ?_
        refine JL_pd rfl (det_move rfl) ?_
        refine JL_step rfl rfl rfl (jo_call rfl rfl Try.call23 rfl (lList_j T a cap (by omega))) fun x28 => ?_
        refine JL_step rfl rfl rfl (jo_callv rfl rfl Try.call42 rfl (hbnd x24 x26 x28)) fun _ => ?_
        refine JL_pd rfl (det_move rfl) ?_
        refine JL_pd rfl (det_extract rfl rfl) ?_
        refine JL_pd rfl (det_extract rfl rfl) ?_
        refine JL_pd rfl (det_assign rfl) ?_
        refine JL_pd rfl (det_assign rfl) ?_
        refine JL_nil ?_
        refine JE_seq ?_
        refine JC_seq ?_
        refine JC_region ?_
        refine JL_dt rfl (det_loadKA rfl Try.isAgg24 Try.sizeOf24 rfl rfl) ?_
        refine JL_step rfl rfl rfl (jo_call rfl rfl Try.call19 rfl (lHouse_j x (by omega))) fun x34 => ?_
        refine JL_pd rfl (det_move rfl) ?_
        refine JL_step rfl rfl rfl (jo_call rfl rfl Try.call20 rfl (lGroups_j ga gc xs (by omega) hft)) fun x36 => ?_
        refine JL_step rfl rfl rfl (jo_call rfl rfl Try.call43 rfl (Marks_c x x34 xs x36 c1)) fun x37 => ?_
        refine JL_pd rfl (det_move rfl) ?_
        refine JL_pd rfl (det_extract rfl rfl) ?_
        refine JL_pd rfl (det_extract rfl rfl) ?_
        refine JL_pd rfl (det_assign rfl) ?_
        refine JL_pd rfl (det_assign rfl) ?_
        refine JL_nil ?_
        refine JE_seq ?_
        refine JC_seq ?_
        refine JC_region ?_
        refine JL_dt rfl (det_loadKA rfl Try.isAgg24 Try.sizeOf24 rfl rfl) ?_
        refine JL_pd rfl (det_move rfl) ?_
        refine JL_step rfl rfl rfl (jo_callv rfl rfl Try.call24 rfl (fault_jl x ga gc xs)) fun _ => ?_
        refine JL_pd rfl (det_assign rfl) ?_
        refine JL_nil ?_
        refine JE_seq ?_
        refine JC_seq ?_
        refine JC_seq ?_
        refine JC_region ?_
        refine JL_pd rfl (det_move rfl) ?_
        refine JL_pd rfl (det_neq rfl rfl) ?_
        refine JL_nil ?_
        refine JE_seq ?_
        -- stop: cond
        refine JC_ifn rfl (fun k1 => ?_) (fun k1 => ?_)
        · exact absurd c1 k1
        refine JC_skip ?_
        refine JE_seq ?_
        refine JC_seq ?_
        refine JC_seq ?_
        refine JC_draw [] (by kernel_rfl) ?_
        refine JA_pd (i := 0) rfl (by kernel_rfl) rfl rfl (det_move rfl) ?_
        refine JA_pd (i := 1) rfl (by kernel_rfl) rfl rfl (det_neq rfl rfl) ?_
        refine JA_pd (i := 2) rfl (by kernel_rfl) rfl rfl (det_move rfl) ?_
        -- stop: guard 2
        refine JA_is (d0 := 67) false rfl (by rfl) (fun g1 => ?_)
        refine JA_gpd (i := 3) rfl (by kernel_rfl) rfl rfl rfl rfl g1 (det_move rfl) ?_
        refine JA_gone (i := 4) (by kernel_rfl) rfl rfl rfl g1 rfl (jo_callv rfl rfl Try.call44 rfl (hris _ _)) (fun _ => ⟨hsub_refl, fun _ h => h⟩) fun _ => ?_
        refine JA_gpd (i := 5) rfl (by kernel_rfl) rfl rfl rfl rfl g1 (det_not rfl) ?_
        refine JA_pd (i := 6) rfl (by kernel_rfl) rfl rfl (det_pick_f rfl g1 rfl) ?_
        refine JA_pd (i := 7) rfl (by kernel_rfl) rfl rfl (det_move rfl) ?_
        -- stop: guard 7
        refine JA_is (d0 := 72) false rfl (by rfl) (fun g2 => ?_)
        refine JA_gpd (i := 8) rfl (by kernel_rfl) rfl rfl rfl rfl g2 (det_move rfl) ?_
        refine JA_gpd (i := 9) rfl (by kernel_rfl) rfl rfl rfl rfl g2 (det_len rfl Try.runUnderlying25) ?_
        refine JA_gpd (i := 10) rfl (by kernel_rfl) rfl rfl rfl rfl g2 (det_leq rfl rfl) ?_
        refine JA_gpd (i := 11) rfl (by kernel_rfl) rfl rfl rfl rfl g2 (det_move rfl) ?_
        -- stop: guard 11
        by_cases c3 : xs.length ≤ 5
        · by_cases c4 : x.h.lanes ≤ 3
          · refine JA_is (d0 := 76) true rfl (by exact decide_eq_true (by omega)) (fun g3 => ?_)
            refine JA_gpd (i := 12) rfl (by kernel_rfl) rfl rfl rfl rfl g3 (det_fieldAddr rfl fo_24_0) ?_
            refine JA_gdt (i := 13) rfl (by kernel_rfl) (by kernel_rfl) rfl rfl rfl rfl g3 (det_loadK rfl Try.isAgg3 rfl) ?_
            refine JA_gpd (i := 14) rfl (by kernel_rfl) rfl rfl rfl rfl g3 (det_leq rfl rfl) ?_
            refine JA_gpd (i := 15) rfl (by kernel_rfl) rfl rfl rfl rfl g2 (det_pick_t rfl g3 rfl) ?_
            refine JA_gpd (i := 16) rfl (by kernel_rfl) rfl rfl rfl rfl g2 (det_move rfl) ?_
            -- stop: guard 16
            refine JA_is (d0 := 81) true rfl (by exact decide_eq_true c4) (fun g4 => ?_)
            refine JA_gdt (i := 17) rfl (by kernel_rfl) (by kernel_rfl) rfl rfl rfl rfl g4 (det_loadKA rfl Try.isAgg24 Try.sizeOf24 rfl rfl) ?_
            refine JA_gpd (i := 18) rfl (by kernel_rfl) rfl rfl rfl rfl g4 (det_move rfl) ?_
            refine JA_gpd (i := 19) rfl (by kernel_rfl) rfl rfl rfl rfl g4 (det_move rfl) ?_
            refine JA_gdt (i := 21) rfl (by kernel_rfl) (by kernel_rfl) rfl rfl rfl rfl g4 (det_loadKA rfl Try.isAgg24 Try.sizeOf24 rfl rfl) ?_
            refine JA_gpd (i := 22) rfl (by kernel_rfl) rfl rfl rfl rfl g4 (det_move rfl) ?_
            refine JA_gone (i := 20) (by kernel_rfl) rfl rfl rfl g4 rfl (jo_callv rfl rfl Try.call45 rfl (hrb _ _)) (fun _ => ⟨hsub_refl, fun _ h => h⟩) fun _ => ?_
            refine JA_gone (i := 23) (by kernel_rfl) rfl rfl rfl g4 rfl (jo_callv rfl rfl Try.call29 rfl (hmo)) (fun _ => ⟨hsub_refl, fun _ h => h⟩) fun _ => ?_
            refine JA_gpd (i := 24) rfl (by kernel_rfl) rfl rfl rfl rfl g4 (det_neq rfl rfl) ?_
            refine JA_gpd (i := 25) rfl (by kernel_rfl) rfl rfl rfl rfl g2 (det_pick_t rfl g4 rfl) ?_
            refine JA_pd (i := 26) rfl (by kernel_rfl) rfl rfl (det_pick_f rfl g2 rfl) ?_
            refine JA_done (by kernel_rfl) ?_
            refine JE_seq ?_
            -- stop: cond
            refine JC_cond rfl (fun k2 => ?_) (fun k2 => ?_)
            · exact absurd k2 (by simp)
            refine JC_skip ?_
            refine JE_seq ?_
            refine JC_seq ?_
            refine JC_seq ?_
            refine JC_region ?_
            refine JL_pd rfl (det_move rfl) ?_
            -- stop: op  1 t93 := (call (Call (value f44) (t92 30) (22 3)))   <0>   129
            refine JL_step rfl rfl rfl (jo_callv rfl rfl Try.call44 rfl (hrisT)) fun _ => ?_
            refine JL_pd rfl (det_not rfl) ?_
            refine JL_nil ?_
            refine JE_seq ?_
            -- stop: cond
            refine JC_cond rfl (fun k3 => ?_) (fun k3 => ?_)
            · cases k3
            refine JC_skip ?_
            refine JE_seq ?_
            refine JC_seq ?_
            refine JC_region ?_
            refine JL_pd rfl (det_move rfl) ?_
            refine JL_pd rfl (det_eql rfl rfl) ?_
            refine JL_pd rfl (det_move rfl) ?_
            -- stop: guard 2
            refine JL_is (d0 := 106) true rfl (by rfl) (fun g5 => ?_)
            refine JL_guard rfl rfl g5 ?_
            refine JL_pd rfl (det_move rfl) ?_
            refine JL_guard rfl rfl g5 ?_
            refine JL_dt rfl (det_loadKA rfl Try.isAgg24 Try.sizeOf24 rfl rfl) ?_
            refine JL_guard rfl rfl g5 ?_
            refine JL_pd rfl (det_move rfl) ?_
            refine JL_guard rfl rfl g5 ?_
            refine JL_pd rfl (det_move rfl) ?_
            refine JL_guard rfl rfl g5 ?_
            -- stop: op  7 t111 := (call (Call (value f45) (t108 t109 t110) (24 25 22)))   <4 5 6 2 2>   132
            refine JL_step rfl rfl rfl (jo_callv rfl rfl Try.call45 rfl (hrbT)) fun _ => ?_
            refine JL_guard rfl rfl g5 ?_
            refine JL_pd rfl (det_eql rfl rfl) ?_
            refine JL_pd rfl (det_pick_t rfl g5 rfl) ?_
            refine JL_pd rfl (det_move rfl) ?_
            -- stop: guard 10
            refine JL_is (d0 := 114) true rfl (by simp) (fun h2 => ?_)
            refine JL_guard rfl rfl h2 ?_
            refine JL_step rfl rfl rfl (jo_callv rfl rfl Try.call17 rfl (awake_j)) fun _ => ?_
            refine JL_pd rfl (det_pick_t rfl h2 rfl) ?_
            refine JL_pd rfl (det_assign rfl) ?_
            refine JL_nil ?_
            refine JE_seq ?_
            refine JC_ret ?_
            refine JE_out (.inl rfl) () (results1 Try.results10 (res_tmp rfl)) ?_ (List.Perm.refl _) (fun _ _ => trivial)
            rfl
          · skip
            refine JA_is (d0 := 76) true rfl (by exact decide_eq_true (by omega)) (fun g3 => ?_)
            refine JA_gpd (i := 12) rfl (by kernel_rfl) rfl rfl rfl rfl g3 (det_fieldAddr rfl fo_24_0) ?_
            refine JA_gdt (i := 13) rfl (by kernel_rfl) (by kernel_rfl) rfl rfl rfl rfl g3 (det_loadK rfl Try.isAgg3 rfl) ?_
            refine JA_gpd (i := 14) rfl (by kernel_rfl) rfl rfl rfl rfl g3 (det_leq rfl rfl) ?_
            refine JA_gpd (i := 15) rfl (by kernel_rfl) rfl rfl rfl rfl g2 (det_pick_t rfl g3 rfl) ?_
            refine JA_gpd (i := 16) rfl (by kernel_rfl) rfl rfl rfl rfl g2 (det_move rfl) ?_
            -- stop: guard 16
            refine JA_is (d0 := 81) false rfl (by exact decide_eq_false c4) (fun g4 => ?_)
            refine JA_skip (i := 17) rfl (by kernel_rfl) rfl rfl rfl rfl g4 ?_
            refine JA_skip (i := 18) rfl (by kernel_rfl) rfl rfl rfl rfl g4 ?_
            refine JA_skip (i := 19) rfl (by kernel_rfl) rfl rfl rfl rfl g4 ?_
            refine JA_skip (i := 20) rfl (by kernel_rfl) rfl rfl rfl rfl g4 ?_
            refine JA_skip (i := 21) rfl (by kernel_rfl) rfl rfl rfl rfl g4 ?_
            refine JA_skip (i := 22) rfl (by kernel_rfl) rfl rfl rfl rfl g4 ?_
            refine JA_skip (i := 23) rfl (by kernel_rfl) rfl rfl rfl rfl g4 ?_
            refine JA_skip (i := 24) rfl (by kernel_rfl) rfl rfl rfl rfl g4 ?_
            refine JA_gpd (i := 25) rfl (by kernel_rfl) rfl rfl rfl rfl g2 (det_pick_f rfl g4 rfl) ?_
            refine JA_pd (i := 26) rfl (by kernel_rfl) rfl rfl (det_pick_f rfl g2 rfl) ?_
            refine JA_done (by kernel_rfl) ?_
            refine JE_seq ?_
            refine JC_condF rfl rfl ?_
            refine JC_skip ?_
            refine JE_seq ?_
            refine JC_seq ?_
            refine JC_seq ?_
            refine JC_region ?_
            refine JL_pd rfl (det_move rfl) ?_
            -- stop: op  1 t93 := (call (Call (value f44) (t92 30) (22 3)))   <0>   129
            refine JL_step rfl rfl rfl (jo_callv rfl rfl Try.call44 rfl (hrisT)) fun _ => ?_
            refine JL_pd rfl (det_not rfl) ?_
            refine JL_nil ?_
            refine JE_seq ?_
            -- stop: cond
            refine JC_cond rfl (fun k3 => ?_) (fun k3 => ?_)
            · cases k3
            refine JC_skip ?_
            refine JE_seq ?_
            refine JC_seq ?_
            refine JC_region ?_
            refine JL_pd rfl (det_move rfl) ?_
            refine JL_pd rfl (det_eql rfl rfl) ?_
            refine JL_pd rfl (det_move rfl) ?_
            -- stop: guard 2
            refine JL_is (d0 := 106) true rfl (by rfl) (fun g5 => ?_)
            refine JL_guard rfl rfl g5 ?_
            refine JL_pd rfl (det_move rfl) ?_
            refine JL_guard rfl rfl g5 ?_
            refine JL_dt rfl (det_loadKA rfl Try.isAgg24 Try.sizeOf24 rfl rfl) ?_
            refine JL_guard rfl rfl g5 ?_
            refine JL_pd rfl (det_move rfl) ?_
            refine JL_guard rfl rfl g5 ?_
            refine JL_pd rfl (det_move rfl) ?_
            refine JL_guard rfl rfl g5 ?_
            -- stop: op  7 t111 := (call (Call (value f45) (t108 t109 t110) (24 25 22)))   <4 5 6 2 2>   132
            refine JL_step rfl rfl rfl (jo_callv rfl rfl Try.call45 rfl (hrbT)) fun _ => ?_
            refine JL_guard rfl rfl g5 ?_
            refine JL_pd rfl (det_eql rfl rfl) ?_
            refine JL_pd rfl (det_pick_t rfl g5 rfl) ?_
            refine JL_pd rfl (det_move rfl) ?_
            -- stop: guard 10
            refine JL_is (d0 := 114) true rfl (by simp) (fun h3 => ?_)
            refine JL_guard rfl rfl h3 ?_
            refine JL_step rfl rfl rfl (jo_callv rfl rfl Try.call17 rfl (awake_j)) fun _ => ?_
            refine JL_pd rfl (det_pick_t rfl h3 rfl) ?_
            refine JL_pd rfl (det_assign rfl) ?_
            refine JL_nil ?_
            refine JE_seq ?_
            refine JC_ret ?_
            refine JE_out (.inl rfl) () (results1 Try.results10 (res_tmp rfl)) ?_ (List.Perm.refl _) (fun _ _ => trivial)
            rfl
        · skip
          refine JA_is (d0 := 76) false rfl (by exact decide_eq_false (by omega)) (fun g3 => ?_)
          refine JA_skip (i := 12) rfl (by kernel_rfl) rfl rfl rfl rfl g3 ?_
          refine JA_skip (i := 13) rfl (by kernel_rfl) rfl rfl rfl rfl g3 ?_
          refine JA_skip (i := 14) rfl (by kernel_rfl) rfl rfl rfl rfl g3 ?_
          refine JA_gpd (i := 15) rfl (by kernel_rfl) rfl rfl rfl rfl g2 (det_pick_f rfl g3 rfl) ?_
          refine JA_gpd (i := 16) rfl (by kernel_rfl) rfl rfl rfl rfl g2 (det_move rfl) ?_
          refine JA_skip (i := 17) rfl (by kernel_rfl) rfl rfl rfl rfl rfl ?_
          refine JA_skip (i := 18) rfl (by kernel_rfl) rfl rfl rfl rfl rfl ?_
          refine JA_skip (i := 19) rfl (by kernel_rfl) rfl rfl rfl rfl rfl ?_
          refine JA_skip (i := 20) rfl (by kernel_rfl) rfl rfl rfl rfl rfl ?_
          refine JA_skip (i := 21) rfl (by kernel_rfl) rfl rfl rfl rfl rfl ?_
          refine JA_skip (i := 22) rfl (by kernel_rfl) rfl rfl rfl rfl rfl ?_
          refine JA_skip (i := 23) rfl (by kernel_rfl) rfl rfl rfl rfl rfl ?_
          refine JA_skip (i := 24) rfl (by kernel_rfl) rfl rfl rfl rfl rfl ?_
          refine JA_gpd (i := 25) rfl (by kernel_rfl) rfl rfl rfl rfl g2 (det_pick_f rfl rfl rfl) ?_
          refine JA_pd (i := 26) rfl (by kernel_rfl) rfl rfl (det_pick_f rfl g2 rfl) ?_
          refine JA_done (by kernel_rfl) ?_
          refine JE_seq ?_
          refine JC_condF rfl rfl ?_
          refine JC_skip ?_
          refine JE_seq ?_
          refine JC_seq ?_
          refine JC_seq ?_
          refine JC_region ?_
          refine JL_pd rfl (det_move rfl) ?_
          -- stop: op  1 t93 := (call (Call (value f44) (t92 30) (22 3)))   <0>   129
          refine JL_step rfl rfl rfl (jo_callv rfl rfl Try.call44 rfl (hrisT)) fun _ => ?_
          refine JL_pd rfl (det_not rfl) ?_
          refine JL_nil ?_
          refine JE_seq ?_
          -- stop: cond
          refine JC_cond rfl (fun k3 => ?_) (fun k3 => ?_)
          · cases k3
          refine JC_skip ?_
          refine JE_seq ?_
          refine JC_seq ?_
          refine JC_region ?_
          refine JL_pd rfl (det_move rfl) ?_
          refine JL_pd rfl (det_eql rfl rfl) ?_
          refine JL_pd rfl (det_move rfl) ?_
          -- stop: guard 2
          refine JL_is (d0 := 106) true rfl (by rfl) (fun g5 => ?_)
          refine JL_guard rfl rfl g5 ?_
          refine JL_pd rfl (det_move rfl) ?_
          refine JL_guard rfl rfl g5 ?_
          refine JL_dt rfl (det_loadKA rfl Try.isAgg24 Try.sizeOf24 rfl rfl) ?_
          refine JL_guard rfl rfl g5 ?_
          refine JL_pd rfl (det_move rfl) ?_
          refine JL_guard rfl rfl g5 ?_
          refine JL_pd rfl (det_move rfl) ?_
          refine JL_guard rfl rfl g5 ?_
          -- stop: op  7 t111 := (call (Call (value f45) (t108 t109 t110) (24 25 22)))   <4 5 6 2 2>   132
          refine JL_step rfl rfl rfl (jo_callv rfl rfl Try.call45 rfl (hrbT)) fun _ => ?_
          refine JL_guard rfl rfl g5 ?_
          refine JL_pd rfl (det_eql rfl rfl) ?_
          refine JL_pd rfl (det_pick_t rfl g5 rfl) ?_
          refine JL_pd rfl (det_move rfl) ?_
          -- stop: guard 10
          refine JL_is (d0 := 114) true rfl (by simp) (fun h4 => ?_)
          refine JL_guard rfl rfl h4 ?_
          refine JL_step rfl rfl rfl (jo_callv rfl rfl Try.call17 rfl (awake_j)) fun _ => ?_
          refine JL_pd rfl (det_pick_t rfl h4 rfl) ?_
          refine JL_pd rfl (det_assign rfl) ?_
          refine JL_nil ?_
          refine JE_seq ?_
          refine JC_ret ?_
          refine JE_out (.inl rfl) () (results1 Try.results10 (res_tmp rfl)) ?_ (List.Perm.refl _) (fun _ _ => trivial)
          rfl
      · have hbe : boundE x (gs xs) T = .tuple #[I 0, I 2] := if_neg c2
        simp only [hbe] at hbnd
        rw [show risB (fun n => inI n 0 30) T = false by simpa using c2] at hrisT
        refine JC_skip ?_
        refine JE_seq ?_
        refine JC_seq ?_
        refine JC_region ?_
        refine JL_dt rfl (det_loadKA rfl Try.isAgg24 Try.sizeOf24 rfl rfl) ?_
        refine JL_step rfl rfl rfl (jo_call rfl rfl Try.call19 rfl (lHouse_j x (by omega))) fun x24 => ?_
        refine JL_pd rfl (det_move rfl) ?_
        refine JL_step rfl rfl rfl (jo_call rfl rfl Try.call20 rfl (lGroups_j ga gc xs (by omega) hft)) fun x26 => ?_
        refine JL_pd rfl (det_move rfl) ?_
        refine JL_step rfl rfl rfl (jo_call rfl rfl Try.call23 rfl (lList_j T a cap (by omega))) fun x28 => ?_
        refine JL_step rfl rfl rfl (jo_callv rfl rfl Try.call42 rfl (hbnd x24 x26 x28)) fun _ => ?_
        refine JL_pd rfl (det_move rfl) ?_
        refine JL_pd rfl (det_extract rfl rfl) ?_
        refine JL_pd rfl (det_extract rfl rfl) ?_
        refine JL_pd rfl (det_assign rfl) ?_
        refine JL_pd rfl (det_assign rfl) ?_
        refine JL_nil ?_
        refine JE_seq ?_
        refine JC_seq ?_
        refine JC_region ?_
        refine JL_dt rfl (det_loadKA rfl Try.isAgg24 Try.sizeOf24 rfl rfl) ?_
        refine JL_step rfl rfl rfl (jo_call rfl rfl Try.call19 rfl (lHouse_j x (by omega))) fun x34 => ?_
        refine JL_pd rfl (det_move rfl) ?_
        refine JL_step rfl rfl rfl (jo_call rfl rfl Try.call20 rfl (lGroups_j ga gc xs (by omega) hft)) fun x36 => ?_
        refine JL_step rfl rfl rfl (jo_call rfl rfl Try.call43 rfl (Marks_c x x34 xs x36 c1)) fun x37 => ?_
        refine JL_pd rfl (det_move rfl) ?_
        refine JL_pd rfl (det_extract rfl rfl) ?_
        refine JL_pd rfl (det_extract rfl rfl) ?_
        refine JL_pd rfl (det_assign rfl) ?_
        refine JL_pd rfl (det_assign rfl) ?_
        refine JL_nil ?_
        refine JE_seq ?_
        refine JC_seq ?_
        refine JC_region ?_
        refine JL_dt rfl (det_loadKA rfl Try.isAgg24 Try.sizeOf24 rfl rfl) ?_
        refine JL_pd rfl (det_move rfl) ?_
        refine JL_step rfl rfl rfl (jo_callv rfl rfl Try.call24 rfl (fault_jl x ga gc xs)) fun _ => ?_
        refine JL_pd rfl (det_assign rfl) ?_
        refine JL_nil ?_
        refine JE_seq ?_
        refine JC_seq ?_
        refine JC_seq ?_
        refine JC_region ?_
        refine JL_pd rfl (det_move rfl) ?_
        refine JL_pd rfl (det_neq rfl rfl) ?_
        refine JL_nil ?_
        refine JE_seq ?_
        -- stop: cond
        refine JC_ifn rfl (fun k1 => ?_) (fun k1 => ?_)
        · exact absurd c1 k1
        refine JC_skip ?_
        refine JE_seq ?_
        refine JC_seq ?_
        refine JC_seq ?_
        refine JC_draw [] (by kernel_rfl) ?_
        refine JA_pd (i := 0) rfl (by kernel_rfl) rfl rfl (det_move rfl) ?_
        refine JA_pd (i := 1) rfl (by kernel_rfl) rfl rfl (det_neq rfl rfl) ?_
        refine JA_pd (i := 2) rfl (by kernel_rfl) rfl rfl (det_move rfl) ?_
        -- stop: guard 2
        refine JA_is (d0 := 67) false rfl (by rfl) (fun g1 => ?_)
        refine JA_gpd (i := 3) rfl (by kernel_rfl) rfl rfl rfl rfl g1 (det_move rfl) ?_
        refine JA_gone (i := 4) (by kernel_rfl) rfl rfl rfl g1 rfl (jo_callv rfl rfl Try.call44 rfl (hris _ _)) (fun _ => ⟨hsub_refl, fun _ h => h⟩) fun _ => ?_
        refine JA_gpd (i := 5) rfl (by kernel_rfl) rfl rfl rfl rfl g1 (det_not rfl) ?_
        refine JA_pd (i := 6) rfl (by kernel_rfl) rfl rfl (det_pick_f rfl g1 rfl) ?_
        refine JA_pd (i := 7) rfl (by kernel_rfl) rfl rfl (det_move rfl) ?_
        -- stop: guard 7
        refine JA_is (d0 := 72) false rfl (by rfl) (fun g2 => ?_)
        refine JA_gpd (i := 8) rfl (by kernel_rfl) rfl rfl rfl rfl g2 (det_move rfl) ?_
        refine JA_gpd (i := 9) rfl (by kernel_rfl) rfl rfl rfl rfl g2 (det_len rfl Try.runUnderlying25) ?_
        refine JA_gpd (i := 10) rfl (by kernel_rfl) rfl rfl rfl rfl g2 (det_leq rfl rfl) ?_
        refine JA_gpd (i := 11) rfl (by kernel_rfl) rfl rfl rfl rfl g2 (det_move rfl) ?_
        -- stop: guard 11
        by_cases c3 : xs.length ≤ 5
        · by_cases c4 : x.h.lanes ≤ 3
          · refine JA_is (d0 := 76) true rfl (by exact decide_eq_true (by omega)) (fun g3 => ?_)
            refine JA_gpd (i := 12) rfl (by kernel_rfl) rfl rfl rfl rfl g3 (det_fieldAddr rfl fo_24_0) ?_
            refine JA_gdt (i := 13) rfl (by kernel_rfl) (by kernel_rfl) rfl rfl rfl rfl g3 (det_loadK rfl Try.isAgg3 rfl) ?_
            refine JA_gpd (i := 14) rfl (by kernel_rfl) rfl rfl rfl rfl g3 (det_leq rfl rfl) ?_
            refine JA_gpd (i := 15) rfl (by kernel_rfl) rfl rfl rfl rfl g2 (det_pick_t rfl g3 rfl) ?_
            refine JA_gpd (i := 16) rfl (by kernel_rfl) rfl rfl rfl rfl g2 (det_move rfl) ?_
            -- stop: guard 16
            refine JA_is (d0 := 81) true rfl (by exact decide_eq_true c4) (fun g4 => ?_)
            refine JA_gdt (i := 17) rfl (by kernel_rfl) (by kernel_rfl) rfl rfl rfl rfl g4 (det_loadKA rfl Try.isAgg24 Try.sizeOf24 rfl rfl) ?_
            refine JA_gpd (i := 18) rfl (by kernel_rfl) rfl rfl rfl rfl g4 (det_move rfl) ?_
            refine JA_gpd (i := 19) rfl (by kernel_rfl) rfl rfl rfl rfl g4 (det_move rfl) ?_
            refine JA_gdt (i := 21) rfl (by kernel_rfl) (by kernel_rfl) rfl rfl rfl rfl g4 (det_loadKA rfl Try.isAgg24 Try.sizeOf24 rfl rfl) ?_
            refine JA_gpd (i := 22) rfl (by kernel_rfl) rfl rfl rfl rfl g4 (det_move rfl) ?_
            refine JA_gone (i := 20) (by kernel_rfl) rfl rfl rfl g4 rfl (jo_callv rfl rfl Try.call45 rfl (hrb _ _)) (fun _ => ⟨hsub_refl, fun _ h => h⟩) fun _ => ?_
            refine JA_gone (i := 23) (by kernel_rfl) rfl rfl rfl g4 rfl (jo_callv rfl rfl Try.call29 rfl (hmo)) (fun _ => ⟨hsub_refl, fun _ h => h⟩) fun _ => ?_
            refine JA_gpd (i := 24) rfl (by kernel_rfl) rfl rfl rfl rfl g4 (det_neq rfl rfl) ?_
            refine JA_gpd (i := 25) rfl (by kernel_rfl) rfl rfl rfl rfl g2 (det_pick_t rfl g4 rfl) ?_
            refine JA_pd (i := 26) rfl (by kernel_rfl) rfl rfl (det_pick_f rfl g2 rfl) ?_
            refine JA_done (by kernel_rfl) ?_
            refine JE_seq ?_
            -- stop: cond
            refine JC_cond rfl (fun k2 => ?_) (fun k2 => ?_)
            · exact absurd k2 (by simp)
            refine JC_skip ?_
            refine JE_seq ?_
            refine JC_seq ?_
            refine JC_seq ?_
            refine JC_region ?_
            refine JL_pd rfl (det_move rfl) ?_
            -- stop: op  1 t93 := (call (Call (value f44) (t92 30) (22 3)))   <0>   129
            refine JL_step rfl rfl rfl (jo_callv rfl rfl Try.call44 rfl (hrisT)) fun _ => ?_
            refine JL_pd rfl (det_not rfl) ?_
            refine JL_nil ?_
            refine JE_seq ?_
            -- stop: cond
            refine JC_cond rfl (fun k3 => ?_) (fun k3 => ?_)
            · refine JC_seq ?_
              refine JC_region ?_
              refine JL_pd rfl (det_move rfl) ?_
              refine JL_pd rfl (det_eql rfl rfl) ?_
              refine JL_pd rfl (det_move rfl) ?_
              -- stop: guard 2
              refine JL_is (d0 := 97) true rfl (by simp) (fun h5 => ?_)
              refine JL_guard rfl rfl h5 ?_
              refine JL_pd rfl (det_move rfl) ?_
              refine JL_guard rfl rfl h5 ?_
              refine JL_pd rfl (det_eql rfl rfl) ?_
              refine JL_pd rfl (det_pick_t rfl h5 rfl) ?_
              refine JL_pd rfl (det_move rfl) ?_
              refine JL_is (d0 := 101) true rfl (by simp) (fun h6 => ?_)
              refine JL_guard rfl rfl h6 ?_
              refine JL_step rfl rfl rfl (jo_callv rfl rfl Try.call17 rfl (awake_j)) fun _ => ?_
              refine JL_pd rfl (det_pick_t rfl h6 rfl) ?_
              refine JL_pd rfl (det_assign rfl) ?_
              refine JL_nil ?_
              refine JE_seq ?_
              refine JC_ret ?_
              refine JE_seq_ret ?_
              refine JE_out (.inl rfl) () (results1 Try.results10 (res_tmp rfl)) ?_ (List.Perm.refl _) (fun _ _ => trivial)
              rfl
            · cases k3
          · skip
            refine JA_is (d0 := 76) true rfl (by exact decide_eq_true (by omega)) (fun g3 => ?_)
            refine JA_gpd (i := 12) rfl (by kernel_rfl) rfl rfl rfl rfl g3 (det_fieldAddr rfl fo_24_0) ?_
            refine JA_gdt (i := 13) rfl (by kernel_rfl) (by kernel_rfl) rfl rfl rfl rfl g3 (det_loadK rfl Try.isAgg3 rfl) ?_
            refine JA_gpd (i := 14) rfl (by kernel_rfl) rfl rfl rfl rfl g3 (det_leq rfl rfl) ?_
            refine JA_gpd (i := 15) rfl (by kernel_rfl) rfl rfl rfl rfl g2 (det_pick_t rfl g3 rfl) ?_
            refine JA_gpd (i := 16) rfl (by kernel_rfl) rfl rfl rfl rfl g2 (det_move rfl) ?_
            -- stop: guard 16
            refine JA_is (d0 := 81) false rfl (by exact decide_eq_false c4) (fun g4 => ?_)
            refine JA_skip (i := 17) rfl (by kernel_rfl) rfl rfl rfl rfl g4 ?_
            refine JA_skip (i := 18) rfl (by kernel_rfl) rfl rfl rfl rfl g4 ?_
            refine JA_skip (i := 19) rfl (by kernel_rfl) rfl rfl rfl rfl g4 ?_
            refine JA_skip (i := 20) rfl (by kernel_rfl) rfl rfl rfl rfl g4 ?_
            refine JA_skip (i := 21) rfl (by kernel_rfl) rfl rfl rfl rfl g4 ?_
            refine JA_skip (i := 22) rfl (by kernel_rfl) rfl rfl rfl rfl g4 ?_
            refine JA_skip (i := 23) rfl (by kernel_rfl) rfl rfl rfl rfl g4 ?_
            refine JA_skip (i := 24) rfl (by kernel_rfl) rfl rfl rfl rfl g4 ?_
            refine JA_gpd (i := 25) rfl (by kernel_rfl) rfl rfl rfl rfl g2 (det_pick_f rfl g4 rfl) ?_
            refine JA_pd (i := 26) rfl (by kernel_rfl) rfl rfl (det_pick_f rfl g2 rfl) ?_
            refine JA_done (by kernel_rfl) ?_
            refine JE_seq ?_
            refine JC_condF rfl rfl ?_
            refine JC_skip ?_
            refine JE_seq ?_
            refine JC_seq ?_
            refine JC_seq ?_
            refine JC_region ?_
            refine JL_pd rfl (det_move rfl) ?_
            -- stop: op  1 t93 := (call (Call (value f44) (t92 30) (22 3)))   <0>   129
            refine JL_step rfl rfl rfl (jo_callv rfl rfl Try.call44 rfl (hrisT)) fun _ => ?_
            refine JL_pd rfl (det_not rfl) ?_
            refine JL_nil ?_
            refine JE_seq ?_
            -- stop: cond
            refine JC_cond rfl (fun k3 => ?_) (fun k3 => ?_)
            · refine JC_seq ?_
              refine JC_region ?_
              refine JL_pd rfl (det_move rfl) ?_
              refine JL_pd rfl (det_eql rfl rfl) ?_
              refine JL_pd rfl (det_move rfl) ?_
              -- stop: guard 2
              refine JL_is (d0 := 97) true rfl (by simp) (fun h7 => ?_)
              refine JL_guard rfl rfl h7 ?_
              refine JL_pd rfl (det_move rfl) ?_
              refine JL_guard rfl rfl h7 ?_
              refine JL_pd rfl (det_eql rfl rfl) ?_
              refine JL_pd rfl (det_pick_t rfl h7 rfl) ?_
              refine JL_pd rfl (det_move rfl) ?_
              refine JL_is (d0 := 101) true rfl (by simp) (fun h8 => ?_)
              refine JL_guard rfl rfl h8 ?_
              refine JL_step rfl rfl rfl (jo_callv rfl rfl Try.call17 rfl (awake_j)) fun _ => ?_
              refine JL_pd rfl (det_pick_t rfl h8 rfl) ?_
              refine JL_pd rfl (det_assign rfl) ?_
              refine JL_nil ?_
              refine JE_seq ?_
              refine JC_ret ?_
              refine JE_seq_ret ?_
              refine JE_out (.inl rfl) () (results1 Try.results10 (res_tmp rfl)) ?_ (List.Perm.refl _) (fun _ _ => trivial)
              rfl
            · cases k3
        · skip
          refine JA_is (d0 := 76) false rfl (by exact decide_eq_false (by omega)) (fun g3 => ?_)
          refine JA_skip (i := 12) rfl (by kernel_rfl) rfl rfl rfl rfl g3 ?_
          refine JA_skip (i := 13) rfl (by kernel_rfl) rfl rfl rfl rfl g3 ?_
          refine JA_skip (i := 14) rfl (by kernel_rfl) rfl rfl rfl rfl g3 ?_
          refine JA_gpd (i := 15) rfl (by kernel_rfl) rfl rfl rfl rfl g2 (det_pick_f rfl g3 rfl) ?_
          refine JA_gpd (i := 16) rfl (by kernel_rfl) rfl rfl rfl rfl g2 (det_move rfl) ?_
          refine JA_skip (i := 17) rfl (by kernel_rfl) rfl rfl rfl rfl rfl ?_
          refine JA_skip (i := 18) rfl (by kernel_rfl) rfl rfl rfl rfl rfl ?_
          refine JA_skip (i := 19) rfl (by kernel_rfl) rfl rfl rfl rfl rfl ?_
          refine JA_skip (i := 20) rfl (by kernel_rfl) rfl rfl rfl rfl rfl ?_
          refine JA_skip (i := 21) rfl (by kernel_rfl) rfl rfl rfl rfl rfl ?_
          refine JA_skip (i := 22) rfl (by kernel_rfl) rfl rfl rfl rfl rfl ?_
          refine JA_skip (i := 23) rfl (by kernel_rfl) rfl rfl rfl rfl rfl ?_
          refine JA_skip (i := 24) rfl (by kernel_rfl) rfl rfl rfl rfl rfl ?_
          refine JA_gpd (i := 25) rfl (by kernel_rfl) rfl rfl rfl rfl g2 (det_pick_f rfl rfl rfl) ?_
          refine JA_pd (i := 26) rfl (by kernel_rfl) rfl rfl (det_pick_f rfl g2 rfl) ?_
          refine JA_done (by kernel_rfl) ?_
          refine JE_seq ?_
          refine JC_condF rfl rfl ?_
          refine JC_skip ?_
          refine JE_seq ?_
          refine JC_seq ?_
          refine JC_seq ?_
          refine JC_region ?_
          refine JL_pd rfl (det_move rfl) ?_
          -- stop: op  1 t93 := (call (Call (value f44) (t92 30) (22 3)))   <0>   129
          refine JL_step rfl rfl rfl (jo_callv rfl rfl Try.call44 rfl (hrisT)) fun _ => ?_
          refine JL_pd rfl (det_not rfl) ?_
          refine JL_nil ?_
          refine JE_seq ?_
          -- stop: cond
          refine JC_cond rfl (fun k3 => ?_) (fun k3 => ?_)
          · refine JC_seq ?_
            refine JC_region ?_
            refine JL_pd rfl (det_move rfl) ?_
            refine JL_pd rfl (det_eql rfl rfl) ?_
            refine JL_pd rfl (det_move rfl) ?_
            -- stop: guard 2
            refine JL_is (d0 := 97) true rfl (by simp) (fun h9 => ?_)
            refine JL_guard rfl rfl h9 ?_
            refine JL_pd rfl (det_move rfl) ?_
            refine JL_guard rfl rfl h9 ?_
            refine JL_pd rfl (det_eql rfl rfl) ?_
            refine JL_pd rfl (det_pick_t rfl h9 rfl) ?_
            refine JL_pd rfl (det_move rfl) ?_
            refine JL_is (d0 := 101) true rfl (by simp) (fun h10 => ?_)
            refine JL_guard rfl rfl h10 ?_
            refine JL_step rfl rfl rfl (jo_callv rfl rfl Try.call17 rfl (awake_j)) fun _ => ?_
            refine JL_pd rfl (det_pick_t rfl h10 rfl) ?_
            refine JL_pd rfl (det_assign rfl) ?_
            refine JL_nil ?_
            refine JE_seq ?_
            refine JC_ret ?_
            refine JE_seq_ret ?_
            refine JE_out (.inl rfl) () (results1 Try.results10 (res_tmp rfl)) ?_ (List.Perm.refl _) (fun _ _ => trivial)
            rfl
          · cases k3
    · have hbnd := fun (q : QH) (g : QG xs) (c : QH) => Bound_ce x q xs g T c.1 c.2 c1
      refine JC_skip ?_
      refine JE_seq ?_
      refine JC_seq ?_
      refine JC_region ?_
      refine JL_dt rfl (det_loadKA rfl Try.isAgg24 Try.sizeOf24 rfl rfl) ?_
      refine JL_step rfl rfl rfl (jo_call rfl rfl Try.call19 rfl (lHouse_j x (by omega))) fun x24 => ?_
      refine JL_pd rfl (det_move rfl) ?_
      refine JL_step rfl rfl rfl (jo_call rfl rfl Try.call20 rfl (lGroups_j ga gc xs (by omega) hft)) fun x26 => ?_
      refine JL_pd rfl (det_move rfl) ?_
      refine JL_step rfl rfl rfl (jo_call rfl rfl Try.call23 rfl (lList_j T a cap (by omega))) fun x28 => ?_
      refine JL_step rfl rfl rfl (jo_callv rfl rfl Try.call42 rfl (hbnd x24 x26 x28)) fun _ => ?_
      refine JL_pd rfl (det_move rfl) ?_
      refine JL_pd rfl (det_extract rfl rfl) ?_
      refine JL_pd rfl (det_extract rfl rfl) ?_
      refine JL_pd rfl (det_assign rfl) ?_
      refine JL_pd rfl (det_assign rfl) ?_
      refine JL_nil ?_
      refine JE_seq ?_
      refine JC_seq ?_
      refine JC_region ?_
      refine JL_dt rfl (det_loadKA rfl Try.isAgg24 Try.sizeOf24 rfl rfl) ?_
      refine JL_step rfl rfl rfl (jo_call rfl rfl Try.call19 rfl (lHouse_j x (by omega))) fun x34 => ?_
      refine JL_pd rfl (det_move rfl) ?_
      refine JL_step rfl rfl rfl (jo_call rfl rfl Try.call20 rfl (lGroups_j ga gc xs (by omega) hft)) fun x36 => ?_
      refine JL_step rfl rfl rfl (jo_callv rfl rfl Try.call43 rfl (Marks_ce x x34 xs x36 c1)) fun _ => ?_
      refine JL_pd rfl (det_move rfl) ?_
      refine JL_pd rfl (det_extract rfl rfl) ?_
      refine JL_pd rfl (det_extract rfl rfl) ?_
      refine JL_pd rfl (det_assign rfl) ?_
      refine JL_pd rfl (det_assign rfl) ?_
      refine JL_nil ?_
      refine JE_seq ?_
      refine JC_seq ?_
      refine JC_region ?_
      refine JL_dt rfl (det_loadKA rfl Try.isAgg24 Try.sizeOf24 rfl rfl) ?_
      refine JL_pd rfl (det_move rfl) ?_
      refine JL_step rfl rfl rfl (jo_callv rfl rfl Try.call24 rfl (fault_jl x ga gc xs)) fun _ => ?_
      refine JL_pd rfl (det_assign rfl) ?_
      refine JL_nil ?_
      refine JE_seq ?_
      refine JC_seq ?_
      refine JC_seq ?_
      refine JC_region ?_
      refine JL_pd rfl (det_move rfl) ?_
      refine JL_pd rfl (det_neq rfl rfl) ?_
      refine JL_nil ?_
      refine JE_seq ?_
      -- stop: cond
      refine JC_ifn rfl (fun k1 => ?_) (fun k1 => ?_)
      · refine JC_seq ?_
        refine JC_region ?_
        refine JL_pd rfl (det_move rfl) ?_
        refine JL_pd rfl (det_move rfl) ?_
        refine JL_pd rfl (det_eql rfl rfl) ?_
        refine JL_pd rfl (det_move rfl) ?_
        -- stop: guard 3
        refine JL_is (d0 := 48) true rfl (by simp) (fun h11 => ?_)
        refine JL_guard rfl rfl h11 ?_
        refine JL_pd rfl (det_move rfl) ?_
        refine JL_guard rfl rfl h11 ?_
        refine JL_pd rfl (det_move rfl) ?_
        refine JL_guard rfl rfl h11 ?_
        refine JL_pd rfl (det_eql rfl rfl) ?_
        refine JL_pd rfl (det_pick_t rfl h11 rfl) ?_
        refine JL_pd rfl (det_move rfl) ?_
        refine JL_is (d0 := 53) true rfl (by simp) (fun h12 => ?_)
        refine JL_guard rfl rfl h12 ?_
        refine JL_pd rfl (det_move rfl) ?_
        refine JL_guard rfl rfl h12 ?_
        refine JL_pd rfl (det_eql rfl rfl) ?_
        refine JL_pd rfl (det_pick_t rfl h12 rfl) ?_
        refine JL_pd rfl (det_move rfl) ?_
        refine JL_is (d0 := 57) true rfl (by simp) (fun h13 => ?_)
        refine JL_guard rfl rfl h13 ?_
        refine JL_pd rfl (det_move rfl) ?_
        refine JL_guard rfl rfl h13 ?_
        refine JL_pd rfl (det_len rfl Try.runUnderlying22) ?_
        refine JL_guard rfl rfl h13 ?_
        refine JL_pd rfl (det_eql rfl rfl) ?_
        refine JL_pd rfl (det_pick_t rfl h13 rfl) ?_
        refine JL_pd rfl (det_move rfl) ?_
        refine JL_is (d0 := 62) true rfl (by simp) (fun h14 => ?_)
        refine JL_guard rfl rfl h14 ?_
        refine JL_step rfl rfl rfl (jo_callv rfl rfl Try.call17 rfl (awake_j)) fun _ => ?_
        refine JL_pd rfl (det_pick_t rfl h14 rfl) ?_
        refine JL_pd rfl (det_assign rfl) ?_
        refine JL_nil ?_
        refine JE_seq ?_
        refine JC_ret ?_
        refine JE_seq_ret ?_
        refine JE_out (.inl rfl) () (results1 Try.results10 (res_tmp rfl)) ?_ (List.Perm.refl _) (fun _ _ => trivial)
        rfl
      · exact absurd k1 c1
end Go.Proofs.Ytkmaafnbefpdjaa

/- The statements about lend: LendProof. -/
namespace Go.Proofs.Ytkmaafnbefpdjaa
open Go.RowKit Go.Shelf

theorem planned_of {x : Hx} {xs : List Gx} {p : List Int} (c : fault x.h (gs xs) = 0) (h : ServeFacts x.h.lanes.toNat (gs xs) p) (hl : 0 ≤ x.h.lanes) : plannedE x.h (gs xs) p = 0 := by
  unfold plannedE
  rw [if_neg (by omega), if_neg (by rw [isPlan_eq, IsPlan_ok h hl]; decide), if_neg (by rw [show rightB (gs xs) p = true from decide_eq_true h.right]; decide)]
theorem marks_len {M : List Int} (m1 : M.Pairwise (· < ·)) (m2 : ∀ t ∈ M, 0 ≤ t ∧ t ≤ 30) : M.length ≤ 31 := by
  have hnd : M.Nodup := m1.imp fun h => by omega
  have := nodup_len hnd (l' := (List.range 31).map fun n : Nat => (n : Int)) fun t ht => by
    have := m2 t ht
    exact List.mem_map.2 ⟨t.toNat, List.mem_range.2 (by omega), by omega⟩
  simpa using this
set_option maxRecDepth 100000 in
set_option maxHeartbeats 1000000 in
theorem LendProof_j (x : Hx) (ga : Option Addr) (gc : Nat) (xs : List Gx) (a : Option Addr) (cap : Nat) (plan : List Int) (ta : Option Addr) (tc : Nat) (T : List Int) : Cv Try.prog 11 [.agg #[I x.h.lanes, .slice x.a x.h.shoes.length x.c], .slice ga xs.length gc, .slice a plan.length cap, .slice ta T.length tc] (KAnd (KHx x) (KAnd (KGs ga gc xs) (KAnd (KSl a plan.length cap encI plan) (KSl ta T.length tc encI T)))) (.bool true) := by
  refine Cx_of Try.func11 rfl Try.ntmps11 rfl fun w0 M0 => ?_
  refine JC_seq ?_
  refine JC_region ?_
  refine JL_step rfl rfl rfl (jo_box rfl rfl) fun b4 => ?_
  refine JL_pd rfl (det_assign rfl) ?_
  refine JL_nil ?_
  refine JE_seq ?_
  refine JC_seq ?_
  refine JC_seq ?_
  refine JC_region ?_
  refine JL_dt rfl (det_loadKA rfl Try.isAgg24 Try.sizeOf24 rfl rfl) ?_
  refine JL_pd rfl (det_move rfl) ?_
  refine JL_step rfl rfl rfl (jo_callv rfl rfl Try.call33 rfl (ready_j x ga gc xs)) fun _ => ?_
  refine JL_pd rfl (det_not rfl) ?_
  refine JL_pd rfl (det_move rfl) ?_
  -- stop: guard 4
  refine JL_join1 9 31 (.bool (!readyB x.h (gs xs) || decide ((12 : Int) < (plan.length : Int)) || decide ((40 : Int) < (T.length : Int)))) (fun hj => ?_) ?_
  · refine JL_split (d0 := 22) rfl (fun q1 => ?_) (fun q1 => ?_)
    · refine JL_skip rfl rfl q1 rfl ?_
      refine JL_skip rfl rfl q1 rfl ?_
      refine JL_skip rfl rfl q1 rfl ?_
      refine JL_pd rfl (det_pick_t rfl q1 rfl) ?_
      refine JL_pd rfl (det_move rfl) ?_
      refine JL_skip rfl rfl rfl rfl ?_
      refine JL_skip rfl rfl rfl rfl ?_
      refine JL_skip rfl rfl rfl rfl ?_
      refine JL_pd rfl (det_pick_t rfl rfl rfl) ?_
      exact hj (by kernel_rfl) (stsub_consB rfl (by clear hj; first | rfl | (simp only [q1, Bool.and_true, Bool.true_and, Bool.false_and, Bool.and_false, Bool.or_true, Bool.true_or, Bool.or_false, Bool.false_or, Bool.not_true, Bool.not_false]; done) | (simp [q1]; done) | (simp at q1; done) | (simp [q1] <;> omega) | (exfalso; simp at q1; omega)) stsub_nil)
    · refine JL_guard rfl rfl q1 ?_
      refine JL_pd rfl (det_move rfl) ?_
      refine JL_guard rfl rfl q1 ?_
      refine JL_pd rfl (det_len rfl Try.runUnderlying22) ?_
      refine JL_guard rfl rfl q1 ?_
      refine JL_pd rfl (det_gtr rfl rfl) ?_
      refine JL_pd rfl (det_pick_f rfl q1 rfl) ?_
      refine JL_pd rfl (det_move rfl) ?_
      refine JL_split (d0 := 27) rfl (fun q2 => ?_) (fun q2 => ?_)
      · refine JL_skip rfl rfl q2 rfl ?_
        refine JL_skip rfl rfl q2 rfl ?_
        refine JL_skip rfl rfl q2 rfl ?_
        refine JL_pd rfl (det_pick_t rfl q2 rfl) ?_
        exact hj (by kernel_rfl) (stsub_consB rfl (by clear hj; first | rfl | (simp only [q1, q2, Bool.and_true, Bool.true_and, Bool.false_and, Bool.and_false, Bool.or_true, Bool.true_or, Bool.or_false, Bool.false_or, Bool.not_true, Bool.not_false]; done) | (simp [q1, q2]; done) | (simp at q1; done) | (simp at q2; done) | (simp [q1, q2] <;> omega) | (exfalso; simp at q1 q2; omega) | (simp [q2] at q1; done) | (simp [q1] at q2; done)) stsub_nil)
      · refine JL_guard rfl rfl q2 ?_
        refine JL_pd rfl (det_move rfl) ?_
        refine JL_guard rfl rfl q2 ?_
        refine JL_pd rfl (det_len rfl Try.runUnderlying22) ?_
        refine JL_guard rfl rfl q2 ?_
        refine JL_pd rfl (det_gtr rfl rfl) ?_
        refine JL_pd rfl (det_pick_f rfl q2 rfl) ?_
        exact hj (by kernel_rfl) (stsub_consB rfl (by clear hj; first | rfl | (simp only [q1, q2, Bool.and_true, Bool.true_and, Bool.false_and, Bool.and_false, Bool.or_true, Bool.true_or, Bool.or_false, Bool.false_or, Bool.not_true, Bool.not_false]; done) | (simp [q1, q2]; done) | (simp at q1; done) | (simp at q2; done) | (simp [q1, q2] <;> omega) | (exfalso; simp at q1 q2; omega) | (simp [q2] at q1; done) | (simp [q1] at q2; done)) stsub_nil)
  refine JL_nil ?_
  refine JE_seq ?_
  -- stop: cond
  refine JC_cond rfl (fun h1 => ?_) (fun h1 => ?_)
  · refine JC_seq ?_
    refine JC_region ?_
    refine JL_step rfl rfl rfl (jo_callv rfl rfl Try.call17 rfl (awake_j)) fun _ => ?_
    refine JL_pd rfl (det_assign rfl) ?_
    refine JL_nil ?_
    refine JE_seq ?_
    refine JC_ret ?_
    refine JE_seq_ret ?_
    -- stop: out
    refine JE_out (.inl rfl) () (results1 Try.results11 (res_tmp rfl)) rfl (List.Perm.refl _) (fun _ _ => trivial)
  · simp only [Bool.or_eq_false_iff, Bool.not_eq_false', decide_eq_false_iff_not] at h1
    obtain ⟨⟨h1, h2⟩, h3⟩ := h1
    obtain ⟨⟨t1, t2, t3⟩, c1⟩ := ready_of h1
    have hgl : (gs xs).length = xs.length := List.length_map _
    rw [hgl] at t2
    have hpl : plan.length ≤ 12 := by omega
    have hTl : T.length ≤ 40 := by omega
    have hft : ∀ y ∈ xs, y.g.feet.length ≤ 1000 := fun y hy => by have := t3 y.g (List.mem_map.2 ⟨y, hy, rfl⟩); omega
    have V := vld_of c1
    have hl0 := V.hs.l0
    have hl1 := V.hs.l1
    obtain ⟨k, hk⟩ : ∃ k : Nat, x.h.lanes.toNat = k := ⟨_, rfl⟩
    have hkk : x.h.lanes = (k : Int) := by omega
    refine JC_skip ?_
    refine JE_seq ?_
    refine JC_seq ?_
    refine JC_region ?_
    refine JL_dt rfl (det_loadKA rfl Try.isAgg24 Try.sizeOf24 rfl rfl) ?_
    refine JL_step rfl rfl rfl (jo_call rfl rfl Try.call19 rfl (lHouse_j x (by omega))) fun x35 => ?_
    refine JL_pd rfl (det_move rfl) ?_
    refine JL_step rfl rfl rfl (jo_call rfl rfl Try.call20 rfl (lGroups_j ga gc xs (by omega) hft)) fun x37 => ?_
    refine JL_step rfl rfl rfl (jo_call rfl rfl Try.call21 rfl (Serve_c x x35 xs x37 c1)) fun x38 => ?_
    refine JL_pd rfl (det_move rfl) ?_
    refine JL_pd rfl (det_extract rfl rfl) ?_
    refine JL_pd rfl (det_extract rfl rfl) ?_
    refine JL_pd rfl (det_assign rfl) ?_
    refine JL_pd rfl (det_assign rfl) ?_
    refine JL_nil ?_
    refine JE_seq ?_
    refine JC_seq ?_
    refine JC_region ?_
    refine JL_dt rfl (det_loadKA rfl Try.isAgg24 Try.sizeOf24 rfl rfl) ?_
    refine JL_step rfl rfl rfl (jo_call rfl rfl Try.call19 rfl (lHouse_j x (by omega))) fun x43 => ?_
    refine JL_pd rfl (det_move rfl) ?_
    refine JL_step rfl rfl rfl (jo_call rfl rfl Try.call20 rfl (lGroups_j ga gc xs (by omega) hft)) fun x45 => ?_
    refine JL_step rfl rfl rfl (jo_call rfl rfl Try.call43 rfl (Marks_c x x43 xs x45 c1)) fun x46 => ?_
    refine JL_pd rfl (det_move rfl) ?_
    refine JL_pd rfl (det_extract rfl rfl) ?_
    refine JL_pd rfl (det_extract rfl rfl) ?_
    refine JL_pd rfl (det_assign rfl) ?_
    refine JL_pd rfl (det_assign rfl) ?_
    refine JL_nil ?_
    refine JE_seq ?_
    refine JC_seq ?_
    refine JC_seq ?_
    refine JC_region ?_
    refine JL_pd rfl (det_move rfl) ?_
    refine JL_pd rfl (det_neq rfl rfl) ?_
    refine JL_pd rfl (det_move rfl) ?_
    -- stop: guard 2
    obtain ⟨pb, p, hp⟩ := x38
    have hF := serve_facts V.gr hp
    have hpn : p.length = xs.length := by rw [hF.n, hgl]
    have hFk := hF
    rw [hk] at hFk
    obtain ⟨m1, m2, m3⟩ := marks_facts V.gr hFk
    have hri := marks_risB V.gr hFk
    rw [← hkk] at m1 m2 m3 hri
    have hpp := planned_of c1 hF hl0
    generalize marksV x.h.lanes (gs xs) = M at m1 m2 m3 hri ⊢
    have hml := marks_len m1 m2
    have hbM := fun (q : QH) (g : QG xs) (c : QH) => Bound_c x q xs g M c.1 c.2 c1 (by omega)
    rw [show boundE x (gs xs) M = .tuple #[I ((served p : Nat) : Int), I 0] by unfold boundE; rw [if_pos hri, hk, m3]] at hbM
    have hPp := fun (q : QH) (g : QG xs) (c : QH) => ProvePlan_c x q xs g p c.1 c.2 (served p : Nat)
    rw [decide_eq_true hpp, decide_eq_true (Int.le_refl _), Bool.true_and] at hPp
    have hPq := fun (q : QH) (g : QG xs) (c : QH) => ProvePlan_c x q xs g plan c.1 c.2 ((served p : Nat) + 1)
    rw [show (decide (plannedE x.h (gs xs) plan = 0) && decide (((served p : Nat) : Int) + 1 ≤ (served plan : Nat))) = false by
      by_cases c2 : plannedE x.h (gs xs) plan = 0
      · have hG := goodP_of c2
        have := serve_most hF hG.n (fun n hn => by have := hG.lane n hn; omega) hG.right
        rw [decide_eq_true c2, Bool.true_and]; exact decide_eq_false (by omega)
      · rw [decide_eq_false c2, Bool.false_and]] at hPq
    have hsl : served p ≤ p.length := List.countP_le_length
    refine JL_is (d0 := 51) false rfl (by rfl) (fun g1 => ?_)
    refine JL_guard rfl rfl g1 ?_
    refine JL_pd rfl (det_move rfl) ?_
    refine JL_guard rfl rfl g1 ?_
    refine JL_pd rfl (det_neq rfl rfl) ?_
    refine JL_pd rfl (det_pick_f rfl g1 rfl) ?_
    refine JL_nil ?_
    refine JE_seq ?_
    -- stop: cond
    refine JC_cond rfl (fun k1 => ?_) (fun k1 => ?_)
    · exact absurd k1 (by decide)
    refine JC_skip ?_
    refine JE_seq ?_
    refine JC_seq ?_
    refine JC_region ?_
    refine JL_dt rfl (det_loadKA rfl Try.isAgg24 Try.sizeOf24 rfl rfl) ?_
    refine JL_step rfl rfl rfl (jo_call rfl rfl Try.call19 rfl (lHouse_j x (by omega))) fun x57 => ?_
    refine JL_pd rfl (det_move rfl) ?_
    refine JL_step rfl rfl rfl (jo_call rfl rfl Try.call20 rfl (lGroups_j ga gc xs (by omega) hft)) fun x59 => ?_
    refine JL_pd rfl (det_move rfl) ?_
    -- stop: op  5 t61 := (call (Call (value f23) (t60) (22)))   <4 3>   100
    refine JL_step rfl rfl rfl (jo_call rfl rfl Try.call23 rfl (lList_j M _ _ (by omega))) fun cm => ?_
    -- stop: op  6 t62 := (call (Call (value f42) (t57 t59 t61) (30 32 22)))   <1 3 5 5>   100
    refine JL_step rfl rfl rfl (jo_callv rfl rfl Try.call42 rfl (hbM x57 x59 cm)) fun _ => ?_
    refine JL_pd rfl (det_move rfl) ?_
    refine JL_pd rfl (det_extract rfl rfl) ?_
    refine JL_pd rfl (det_extract rfl rfl) ?_
    refine JL_pd rfl (det_assign rfl) ?_
    refine JL_pd rfl (det_assign rfl) ?_
    refine JL_nil ?_
    refine JE_seq ?_
    refine JC_seq ?_
    refine JC_region ?_
    refine JL_pd rfl (det_move rfl) ?_
    -- stop: op  1 t66 := (call (Call (value f26) (t65) (22)))   <0>   101
    refine JL_step rfl rfl rfl (jo_callv rfl rfl Try.call26 rfl (Served_j _ _ p (by omega))) fun _ => ?_
    refine JL_pd rfl (det_assign rfl) ?_
    refine JL_nil ?_
    refine JE_seq ?_
    refine JC_seq ?_
    refine JC_seq ?_
    refine JC_region ?_
    refine JL_pd rfl (det_move rfl) ?_
    refine JL_pd rfl (det_neq rfl rfl) ?_
    refine JL_pd rfl (det_move rfl) ?_
    -- stop: guard 2
    refine JL_is (d0 := 69) false rfl (by rfl) (fun g2 => ?_)
    refine JL_guard rfl rfl g2 ?_
    refine JL_pd rfl (det_move rfl) ?_
    refine JL_guard rfl rfl g2 ?_
    refine JL_pd rfl (det_move rfl) ?_
    refine JL_guard rfl rfl g2 ?_
    refine JL_pd rfl (det_neq rfl rfl) ?_
    refine JL_pd rfl (det_pick_f rfl g2 rfl) ?_
    refine JL_pd rfl (det_move rfl) ?_
    -- stop: guard 7
    refine JL_is (d0 := 74) false rfl (by simp) (fun g3 => ?_)
    refine JL_guard rfl rfl g3 ?_
    refine JL_dt rfl (det_loadKA rfl Try.isAgg24 Try.sizeOf24 rfl rfl) ?_
    refine JL_guard rfl rfl g3 ?_
    refine JL_step rfl rfl rfl (jo_call rfl rfl Try.call19 rfl (lHouse_j x (by omega))) fun x76 => ?_
    refine JL_guard rfl rfl g3 ?_
    refine JL_pd rfl (det_move rfl) ?_
    refine JL_guard rfl rfl g3 ?_
    refine JL_step rfl rfl rfl (jo_call rfl rfl Try.call20 rfl (lGroups_j ga gc xs (by omega) hft)) fun x78 => ?_
    refine JL_guard rfl rfl g3 ?_
    refine JL_pd rfl (det_move rfl) ?_
    refine JL_guard rfl rfl g3 ?_
    -- stop: op 13 t80 := (call (Call (value f23) (t79) (22)))   <12 11 7>   102
    refine JL_step rfl rfl rfl (jo_call rfl rfl Try.call23 rfl (lList_j p _ _ (by omega))) fun cp => ?_
    refine JL_guard rfl rfl g3 ?_
    refine JL_pd rfl (det_move rfl) ?_
    refine JL_guard rfl rfl g3 ?_
    -- stop: op 15 t82 := (call (Call (value f22) (t76 t78 t80 t81) (30 32 22 3)))   <9 11 13 14 13 7>   102
    refine JL_step rfl rfl rfl (jo_callv rfl rfl Try.call22 rfl (hPp x76 x78 cp)) fun _ => ?_
    refine JL_guard rfl rfl g3 ?_
    refine JL_pd rfl (det_not rfl) ?_
    refine JL_pd rfl (det_pick_f rfl g3 rfl) ?_
    refine JL_pd rfl (det_move rfl) ?_
    -- stop: guard 18
    refine JL_is (d0 := 85) false rfl (by rfl) (fun g4 => ?_)
    refine JL_guard rfl rfl g4 ?_
    refine JL_dt rfl (det_loadKA rfl Try.isAgg24 Try.sizeOf24 rfl rfl) ?_
    refine JL_guard rfl rfl g4 ?_
    refine JL_step rfl rfl rfl (jo_call rfl rfl Try.call19 rfl (lHouse_j x (by omega))) fun x87 => ?_
    refine JL_guard rfl rfl g4 ?_
    refine JL_pd rfl (det_move rfl) ?_
    refine JL_guard rfl rfl g4 ?_
    refine JL_step rfl rfl rfl (jo_call rfl rfl Try.call20 rfl (lGroups_j ga gc xs (by omega) hft)) fun x89 => ?_
    refine JL_guard rfl rfl g4 ?_
    refine JL_pd rfl (det_move rfl) ?_
    refine JL_guard rfl rfl g4 ?_
    -- stop: op 24 t91 := (call (Call (value f23) (t90) (22)))   <23 22 18>   102
    refine JL_step rfl rfl rfl (jo_call rfl rfl Try.call23 rfl (lList_j plan _ _ (by omega))) fun cq => ?_
    refine JL_guard rfl rfl g4 ?_
    refine JL_pd rfl (det_move rfl) ?_
    refine JL_guard rfl rfl g4 ?_
    refine JL_pd rfl (det_add rfl rfl ⟨by omega, by omega⟩) ?_
    refine JL_guard rfl rfl g4 ?_
    -- stop: op 27 t94 := (call (Call (value f22) (t87 t89 t91 t93) (30 32 22 3)))   <20 22 24 26 24 18>   102
    refine JL_step rfl rfl rfl (jo_callv rfl rfl Try.call22 rfl (hPq x87 x89 cq)) fun _ => ?_
    refine JL_pd rfl (det_pick_f rfl g4 rfl) ?_
    refine JL_nil ?_
    refine JE_seq ?_
    -- stop: cond
    refine JC_cond rfl (fun k2 => ?_) (fun k2 => ?_)
    · cases k2
    refine JC_skip ?_
    refine JE_seq ?_
    refine JC_seq ?_
    refine JC_region ?_
    refine JL_dt rfl (det_loadKA rfl Try.isAgg24 Try.sizeOf24 rfl rfl) ?_
    refine JL_step rfl rfl rfl (jo_call rfl rfl Try.call19 rfl (lHouse_j x (by omega))) fun x98 => ?_
    refine JL_pd rfl (det_move rfl) ?_
    refine JL_step rfl rfl rfl (jo_call rfl rfl Try.call20 rfl (lGroups_j ga gc xs (by omega) hft)) fun x100 => ?_
    refine JL_pd rfl (det_move rfl) ?_
    -- stop: op  5 t102 := (call (Call (value f23) (t101) (22)))   <4 3>   105
    refine JL_step rfl rfl rfl (jo_call rfl rfl Try.call23 rfl (lList_j T _ _ (by omega))) fun ct => ?_
    -- stop: op  6 t103 := (call (Call (value f42) (t98 t100 t102) (30 32 22)))   <1 3 5 5>   105
    by_cases c3 : risB (fun n => inI n 0 30) T = true
    · have hbT := fun (q : QH) (g : QG xs) (c : QH) => Bound_c x q xs g T c.1 c.2 c1 (by omega)
      rw [show boundE x (gs xs) T = .tuple #[I ((boundL x.h.lanes.toNat (gs xs) T : Nat) : Int), I 0] from if_pos c3] at hbT
      have hle := right_le hF.n (fun n hn => (hF.lane n hn).2) hF.right T
      refine JL_step rfl rfl rfl (jo_callv rfl rfl Try.call42 rfl (hbT x98 x100 ct)) fun _ => ?_
      refine JL_pd rfl (det_move rfl) ?_
      refine JL_pd rfl (det_extract rfl rfl) ?_
      refine JL_pd rfl (det_extract rfl rfl) ?_
      refine JL_pd rfl (det_assign rfl) ?_
      refine JL_pd rfl (det_assign rfl) ?_
      refine JL_nil ?_
      refine JE_seq ?_
      refine JC_seq ?_
      refine JC_region ?_
      refine JL_pd rfl (det_move rfl) ?_
      refine JL_pd rfl (det_eql rfl rfl) ?_
      refine JL_pd rfl (det_move rfl) ?_
      -- stop: guard 2
      refine JL_is (d0 := 108) false rfl (by rfl) (fun g5 => ?_)
      refine JL_guard rfl rfl g5 ?_
      refine JL_pd rfl (det_move rfl) ?_
      refine JL_guard rfl rfl g5 ?_
      refine JL_pd rfl (det_eql rfl rfl) ?_
      refine JL_guard rfl rfl g5 ?_
      refine JL_pd rfl (det_move rfl) ?_
      -- stop: guard 5
      refine JL_is (d0 := 111) true rfl (by rfl) (fun g6 => ?_)
      refine JL_guard rfl rfl g6 ?_
      refine JL_pd rfl (det_move rfl) ?_
      refine JL_guard rfl rfl g6 ?_
      refine JL_pd rfl (det_move rfl) ?_
      refine JL_guard rfl rfl g6 ?_
      refine JL_pd rfl (det_geq rfl rfl) ?_
      refine JL_guard rfl rfl g5 ?_
      refine JL_pd rfl (det_pick_t rfl g6 rfl) ?_
      refine JL_pd rfl (det_pick_f rfl g5 rfl) ?_
      refine JL_pd rfl (det_move rfl) ?_
      -- stop: guard 11
      refine JL_is (d0 := 117) true rfl (by (first | rfl | exact decide_eq_true (by omega))) (fun h3 => ?_)
      refine JL_guard rfl rfl h3 ?_
      refine JL_step rfl rfl rfl (jo_callv rfl rfl Try.call17 rfl (awake_j)) fun _ => ?_
      refine JL_pd rfl (det_pick_t rfl h3 rfl) ?_
      refine JL_pd rfl (det_assign rfl) ?_
      refine JL_nil ?_
      refine JE_seq ?_
      refine JC_ret ?_
      refine JE_out (.inl rfl) () (results1 Try.results11 (res_tmp rfl)) ?_ (List.Perm.refl _) (fun _ _ => trivial)
      rfl
    · have hbT := fun (q : QH) (g : QG xs) (c : QH) => Bound_c x q xs g T c.1 c.2 c1 (by omega)
      rw [show boundE x (gs xs) T = .tuple #[I 0, I 2] from if_neg c3] at hbT
      refine JL_step rfl rfl rfl (jo_callv rfl rfl Try.call42 rfl (hbT x98 x100 ct)) fun _ => ?_
      refine JL_pd rfl (det_move rfl) ?_
      refine JL_pd rfl (det_extract rfl rfl) ?_
      refine JL_pd rfl (det_extract rfl rfl) ?_
      refine JL_pd rfl (det_assign rfl) ?_
      refine JL_pd rfl (det_assign rfl) ?_
      refine JL_nil ?_
      refine JE_seq ?_
      refine JC_seq ?_
      refine JC_region ?_
      refine JL_pd rfl (det_move rfl) ?_
      refine JL_pd rfl (det_eql rfl rfl) ?_
      refine JL_pd rfl (det_move rfl) ?_
      -- stop: guard 2
      refine JL_is (d0 := 108) true rfl (by rfl) (fun g5 => ?_)
      refine JL_skip rfl rfl g5 rfl ?_
      refine JL_skip rfl rfl g5 rfl ?_
      refine JL_skip rfl rfl g5 rfl ?_
      refine JL_skipU rfl rfl rfl ?_
      refine JL_skipU rfl rfl rfl ?_
      refine JL_skipU rfl rfl rfl ?_
      refine JL_skip rfl rfl g5 rfl ?_
      refine JL_pd rfl (det_pick_t rfl g5 rfl) ?_
      refine JL_pd rfl (det_move rfl) ?_
      refine JL_guard rfl rfl rfl ?_
      refine JL_step rfl rfl rfl (jo_callv rfl rfl Try.call17 rfl (awake_j)) fun _ => ?_
      refine JL_pd rfl (det_pick_t rfl rfl rfl) ?_
      refine JL_pd rfl (det_assign rfl) ?_
      refine JL_nil ?_
      refine JE_seq ?_
      refine JC_ret ?_
      -- stop: out
      refine JE_out (.inl rfl) () (results1 Try.results11 (res_tmp rfl)) ?_ (List.Perm.refl _) (fun _ _ => trivial)
      rfl
end Go.Proofs.Ytkmaafnbefpdjaa
