/- The statements about lend: LendLaters. -/
import Derived.Test.YtkmaafnbefpdjaaB9
set_option linter.unusedSimpArgs false
set_option linter.unusedVariables false
namespace Go.Proofs.Ytkmaafnbefpdjaa
open Go.RowKit Go.Shelf

def hitL (lane at_ : Int) (z : Gr × Int) : Bool := decide (z.2 = lane) && stays z.1 at_
theorem tk_hitL (zs : List (Gr × Int)) {lane at_ : Int} (h : 0 ≤ lane) : tk zs (lane, at_) = zs.any (hitL lane at_) := by
  unfold tk
  congr 1
  funext z
  unfold hitL srv
  by_cases e : z.2 = lane
  · rw [e, decide_eq_true h]; rfl
  · simp [e]
theorem any_snoc {α : Type} (p : α → Bool) {l : List α} {i : Nat} (h : i < l.length) : (l.take (i + 1)).any p = ((l.take i).any p || p l[i]) := by
  rw [take_snoc h, List.any_append]; simp
def laterT (o : Option (Int × Int)) : Value := match o with | some r => .tuple #[I r.1, I r.2, .bool true] | none => .tuple #[I 0, I 0, .bool false]
set_option maxRecDepth 100000 in
set_option maxHeartbeats 1000000 in
theorem RLater_j (x : Hx) (ga : Option Addr) (gc : Nat) (xs : List Gx) (a : Option Addr) (cap : Nat) (plan : List Int) (gi : Nat) (hgi : gi < xs.length) (hn : plan.length = xs.length) (hxl : xs.length ≤ 1000) (k : Nat) (hk : x.h.lanes = k) (hk5 : k ≤ 5) (hV : VGr xs[gi].g) : Cv Try.prog 32 [.agg #[I x.h.lanes, .slice x.a x.h.shoes.length x.c], .slice ga xs.length gc, .slice a plan.length cap, I gi] (KAnd (KSl ga xs.length gc encG xs) (KSl a plan.length cap encI plan)) (laterT (laterV (tk ((gs xs).zip plan)) k xs[gi].g)) := by
  have hgl : (gs xs).length = xs.length := List.length_map _
  generalize hzs : (gs xs).zip plan = zs
  have hzl : zs.length = xs.length := by rw [← hzs, List.length_zip, hgl]; omega
  have hzg : ∀ i (hi : i < xs.length), zs[i]'(by omega) = (xs[i].g, plan[i]'(by omega)) := fun i hi => by
    subst hzs; rw [List.getElem_zip]; simp [gs]
  have v1 := hV.f0
  have v2 := hV.fl
  have v3 := hV.lh
  have v4 := hV.h1
  refine Cx_of Try.func32 rfl Try.ntmps32 rfl fun w0 M0 => ?_
  refine JC_seq ?_
  refine JC_region ?_
  refine JL_step rfl rfl rfl (jo_box rfl rfl) fun b4 => ?_
  refine JL_pd rfl (det_assign rfl) ?_
  refine JL_pd rfl (det_assign rfl) ?_
  refine JL_pd rfl (det_assign rfl) ?_
  refine JL_nil ?_
  refine JE_seq ?_
  refine JC_seq ?_
  refine JC_region ?_
  refine JL_pd rfl (det_move rfl) ?_
  refine JL_pd rfl (det_move rfl) ?_
  refine JL_dt rfl (det_indexAddr rfl rfl (by first | rfl | omega) (by first | assumption | omega | decide) Try.runUnderlying25 Try.sizeOf55) ?_
  refine JL_dt rfl (det_loadEA rfl (by first | assumption | omega | decide) Try.isAgg55 Try.sizeOf55 rfl rfl rfl) ?_
  refine JL_step rfl rfl rfl (jo_alloc0 Try.zeroValue55 rfl) fun b11 => ?_
  refine JL_step0 rfl rfl (jo_store rfl rfl rfl (by first | (simp only [splice_norm]; done) | (simp only [splice_norm]; rfl) | rfl) Try.sizeOf55 rfl rfl) fun _ => ?_
  refine JL_nil ?_
  refine JE_seq ?_
  refine JC_seq ?_
  refine JC_region ?_
  refine JL_pd rfl (det_fieldAddr rfl fo_55_1) ?_
  refine JL_pd rfl (det_fieldAddr rfl fo_53_1) ?_
  refine JL_dt rfl (det_loadK rfl Try.isAgg3 rfl) ?_
  refine JL_pd rfl (det_fieldAddr rfl fo_55_0) ?_
  refine JL_dt rfl (det_loadK rfl Try.isAgg3 rfl) ?_
  refine JL_pd rfl (det_sub rfl rfl ⟨by omega, by omega⟩) ?_
  refine JL_pd rfl (det_assign rfl) ?_
  refine JL_nil ?_
  refine JE_seq ?_
  refine JC_seq ?_
  refine JC_seq ?_
  refine JC_region ?_
  refine JL_pd rfl (det_fieldAddr rfl fo_55_0) ?_
  refine JL_dt rfl (det_loadK rfl Try.isAgg3 rfl) ?_
  refine JL_pd rfl (det_assign rfl) ?_
  refine JL_nil ?_
  refine JE_seq ?_
  refine JC_block ?_
  -- stop: loop
  refine JC_loopF (γ := Nat) (fun A => A ≤ (31 - xs[gi].g.hi).toNat ∧ laterN (tk zs) k xs[gi].g A = none) (fun A => [(13, I (xs[gi].g.fr + A))]) (fun _ => []) (fun A => (31 - xs[gi].g.hi).toNat - A) 0 ⟨Nat.zero_le _, rfl⟩ (stsub_consI rfl (by simp) stsub_nil) ht_nil ?_
  rintro A ⟨hA, hno⟩ K hK
  dsimp only [List.cons_append, List.nil_append]
  refine JC_seq ?_
  refine JC_seq ?_
  refine JC_region ?_
  refine JL_pd rfl (det_move rfl) ?_
  refine JL_pd rfl (det_move rfl) ?_
  refine JL_pd rfl (det_add rfl rfl ⟨by omega, by omega⟩) ?_
  refine JL_pd rfl (det_leq rfl rfl) ?_
  refine JL_nil ?_
  refine JE_seq ?_
  -- stop: cond
  refine JC_if rfl (fun h5 => ?_) (fun h5 => ?_)
  · have hA2 : A < (31 - xs[gi].g.hi).toNat := by omega
    refine JC_skip ?_
    refine JE_seq ?_
    refine JC_seq ?_
    refine JC_block ?_
    refine JC_seq ?_
    refine JC_region ?_
    refine JL_pd rfl (det_assign rfl) ?_
    refine JL_nil ?_
    refine JE_seq ?_
    refine JC_block ?_
    -- stop: loop
    refine JC_loopF (γ := Nat) (fun i => i ≤ k ∧ (List.range i).find? (fun n : Nat => freeW (tk zs) xs[gi].g n A) = none) (fun i => [(14, I i)]) (fun _ => []) (fun i => k - i) 0 ⟨Nat.zero_le _, rfl⟩ (stsub_consI rfl rfl stsub_nil) ht_nil ?_
    rintro i ⟨hi, hni⟩ K1 hK1
    dsimp only [List.cons_append, List.nil_append]
    refine JC_seq ?_
    refine JC_seq ?_
    refine JC_region ?_
    refine JL_pd rfl (det_move rfl) ?_
    refine JL_pd rfl (det_fieldAddr rfl fo_24_0) ?_
    refine JL_dt rfl (det_loadK rfl Try.isAgg3 rfl) ?_
    refine JL_pd rfl (det_lss rfl rfl) ?_
    refine JL_nil ?_
    refine JE_seq ?_
    -- stop: cond
    refine JC_if rfl (fun h6 => ?_) (fun h6 => ?_)
    · have hi2 : i < k := by omega
      have hfs := find_snoc hni
      refine JC_skip ?_
      refine JE_seq ?_
      refine JC_seq ?_
      refine JC_block ?_
      refine JC_seq ?_
      refine JC_region ?_
      refine JL_pd rfl (det_assign rfl) ?_
      refine JL_nil ?_
      refine JE_seq ?_
      refine JC_seq ?_
      refine JC_seq ?_
      refine JC_region ?_
      refine JL_pd rfl (det_move rfl) ?_
      refine JL_pd rfl (det_assign rfl) ?_
      refine JL_nil ?_
      refine JE_seq ?_
      refine JC_block ?_
      -- stop: loop
      refine JC_loopF (γ := Nat) (fun j => j ≤ (xs[gi].g.hi + 1 - xs[gi].g.fr).toNat) (fun j => [(16, I (xs[gi].g.fr + A + j)), (15, .bool (((hoursL xs[gi].g).take j).all fun t => !tk zs ((i : Int), t + A)))]) (fun _ => []) (fun j => (xs[gi].g.hi + 1 - xs[gi].g.fr).toNat - j) 0 (Nat.zero_le _) (stsub_consI rfl (by simp) (stsub_consB rfl rfl stsub_nil)) ht_nil ?_
      intro j hj K2 hK2
      dsimp only [List.cons_append, List.nil_append]
      generalize hb : (((hoursL xs[gi].g).take j).all fun t => !tk zs ((i : Int), t + A)) = b
      refine JC_seq ?_
      refine JC_seq ?_
      refine JC_region ?_
      refine JL_pd rfl (det_move rfl) ?_
      refine JL_pd rfl (det_move rfl) ?_
      refine JL_pd rfl (det_move rfl) ?_
      refine JL_pd rfl (det_add rfl rfl ⟨by omega, by omega⟩) ?_
      refine JL_pd rfl (det_leq rfl rfl) ?_
      refine JL_nil ?_
      refine JE_seq ?_
      -- stop: cond
      refine JC_if rfl (fun h7 => ?_) (fun h7 => ?_)
      · have hj2 : j < (xs[gi].g.hi + 1 - xs[gi].g.fr).toNat := by omega
        have hsn : (((hoursL xs[gi].g).take (j + 1)).all fun t => !tk zs ((i : Int), t + A)) = (b && !zs.any (hitL i (xs[gi].g.fr + A + j))) := by
          rw [hours_get _ j hj2, List.all_append, hb]
          simp only [List.all_cons, List.all_nil, Bool.and_true]
          rw [tk_hitL zs (by omega), show xs[gi].g.fr + (j : Int) + A = xs[gi].g.fr + A + j by omega]
        refine JC_skip ?_
        refine JE_seq ?_
        refine JC_seq ?_
        refine JC_block ?_
        refine JC_seq ?_
        refine JC_region ?_
        refine JL_pd rfl (det_assign rfl) ?_
        refine JL_nil ?_
        refine JE_seq ?_
        refine JC_block ?_
        -- stop: loop
        refine JC_loopF (γ := Nat) (fun m => m ≤ xs.length) (fun m => [(17, I m), (15, .bool (b && !(zs.take m).any (hitL i (xs[gi].g.fr + A + j))))]) (fun _ => []) (fun m => xs.length - m) 0 (Nat.zero_le _) (stsub_consI rfl rfl (stsub_consB rfl (by simp) stsub_nil)) ht_nil ?_
        intro m hm K3 hK3
        dsimp only [List.cons_append, List.nil_append]
        generalize hb2 : (b && !(zs.take m).any (hitL i (xs[gi].g.fr + A + j))) = b2
        refine JC_seq ?_
        refine JC_seq ?_
        refine JC_region ?_
        refine JL_pd rfl (det_move rfl) ?_
        refine JL_pd rfl (det_move rfl) ?_
        refine JL_pd rfl (det_len rfl Try.runUnderlying25) ?_
        refine JL_pd rfl (det_lss rfl rfl) ?_
        refine JL_nil ?_
        refine JE_seq ?_
        -- stop: cond
        refine JC_if rfl (fun h8 => ?_) (fun h8 => ?_)
        · have hm2 : m < xs.length := by omega
          have hm3 : m < plan.length := by omega
          have hsm : (b && !(zs.take (m + 1)).any (hitL i (xs[gi].g.fr + A + j))) = (b2 && !(decide (plan[m] = (i : Int)) && stays xs[m].g (xs[gi].g.fr + A + j))) := by
            rw [any_snoc _ (by omega), hzg m hm2, ← hb2]
            simp [hitL, Bool.and_assoc]
          refine JC_skip ?_
          refine JE_seq ?_
          refine JC_seq ?_
          refine JC_block ?_
          refine JC_region ?_
          refine JL_pd rfl (det_move rfl) ?_
          refine JL_pd rfl (det_move rfl) ?_
          -- stop: guard 1
          refine JL_join1 17 15 (.bool (b2 && !(decide (plan[m] = (i : Int)) && stays xs[m].g (xs[gi].g.fr + A + j)))) (fun hj => ?_) ?_
          · refine JL_split (d0 := 57) rfl (fun q1 => ?_) (fun q1 => ?_)
            · refine JL_guard rfl rfl q1 ?_
              refine JL_pd rfl (det_move rfl) ?_
              refine JL_guard rfl rfl q1 ?_
              refine JL_pd rfl (det_move rfl) ?_
              refine JL_guard rfl rfl q1 ?_
              refine JL_dt rfl (det_indexAddr rfl rfl (by first | rfl | omega) (by first | assumption | omega | decide) Try.runUnderlying22 Try.sizeOf3) ?_
              refine JL_guard rfl rfl q1 ?_
              refine JL_dt rfl (det_loadE rfl (by first | assumption | omega | decide) Try.isAgg3 rfl rfl) ?_
              refine JL_guard rfl rfl q1 ?_
              refine JL_pd rfl (det_move rfl) ?_
              refine JL_guard rfl rfl q1 ?_
              refine JL_pd rfl (det_eql rfl rfl) ?_
              refine JL_guard rfl rfl q1 ?_
              refine JL_pd rfl (det_move rfl) ?_
              refine JL_split (d0 := 64) rfl (fun q2 => ?_) (fun q2 => ?_)
              · refine JL_guard rfl rfl q2 ?_
                refine JL_pd rfl (det_move rfl) ?_
                refine JL_guard rfl rfl q2 ?_
                refine JL_pd rfl (det_move rfl) ?_
                refine JL_guard rfl rfl q2 ?_
                refine JL_dt rfl (det_indexAddr rfl rfl (by first | rfl | omega) (by first | assumption | omega | decide) Try.runUnderlying25 Try.sizeOf55) ?_
                refine JL_guard rfl rfl q2 ?_
                refine JL_dt rfl (det_loadEA rfl (by first | assumption | omega | decide) Try.isAgg55 Try.sizeOf55 rfl rfl rfl) ?_
                refine JL_guard rfl rfl q2 ?_
                refine JL_pd rfl (det_move rfl) ?_
                refine JL_guard rfl rfl q2 ?_
                refine JL_step rfl rfl rfl (jo_callv rfl rfl Try.call68 rfl (Stays_j _ _)) fun _ => ?_
                refine JL_guard rfl rfl q1 ?_
                refine JL_pd rfl (det_pick_t rfl q2 rfl) ?_
                refine JL_guard rfl rfl q1 ?_
                refine JL_pd rfl (det_not rfl) ?_
                refine JL_pd rfl (det_pick_t rfl q1 rfl) ?_
                refine JL_pd rfl (det_assign rfl) ?_
                exact hj (by kernel_rfl) (stsub_consB rfl (by clear hj; first | rfl | (simp only [q1, q2, Bool.and_true, Bool.true_and, Bool.false_and, Bool.and_false, Bool.or_true, Bool.true_or, Bool.or_false, Bool.false_or, Bool.not_true, Bool.not_false]; done) | (simp [q1, q2]; done) | (simp at q1; done) | (simp at q2; done) | (simp [q1, q2] <;> omega) | (exfalso; simp at q1 q2; omega) | (simp [q2] at q1; done) | (simp [q1] at q2; done)) stsub_nil)
              · refine JL_skip rfl rfl q2 rfl ?_
                refine JL_skip rfl rfl q2 rfl ?_
                refine JL_skip rfl rfl q2 rfl ?_
                refine JL_skip rfl rfl q2 rfl ?_
                refine JL_skip rfl rfl q2 rfl ?_
                refine JL_skip rfl rfl q2 rfl ?_
                refine JL_guard rfl rfl q1 ?_
                refine JL_pd rfl (det_pick_f rfl q2 rfl) ?_
                refine JL_guard rfl rfl q1 ?_
                refine JL_pd rfl (det_not rfl) ?_
                refine JL_pd rfl (det_pick_t rfl q1 rfl) ?_
                refine JL_pd rfl (det_assign rfl) ?_
                exact hj (by kernel_rfl) (stsub_consB rfl (by clear hj; first | rfl | (simp only [q1, q2, Bool.and_true, Bool.true_and, Bool.false_and, Bool.and_false, Bool.or_true, Bool.true_or, Bool.or_false, Bool.false_or, Bool.not_true, Bool.not_false]; done) | (simp [q1, q2]; done) | (simp at q1; done) | (simp at q2; done) | (simp [q1, q2] <;> omega) | (exfalso; simp at q1 q2; omega) | (simp [q2] at q1; done) | (simp [q1] at q2; done)) stsub_nil)
            · refine JL_skip rfl rfl q1 rfl ?_
              refine JL_skip rfl rfl q1 rfl ?_
              refine JL_skip rfl rfl q1 rfl ?_
              refine JL_skip rfl rfl q1 rfl ?_
              refine JL_skip rfl rfl q1 rfl ?_
              refine JL_skip rfl rfl q1 rfl ?_
              refine JL_skip rfl rfl q1 rfl ?_
              refine JL_skipU rfl rfl rfl ?_
              refine JL_skipU rfl rfl rfl ?_
              refine JL_skipU rfl rfl rfl ?_
              refine JL_skipU rfl rfl rfl ?_
              refine JL_skipU rfl rfl rfl ?_
              refine JL_skipU rfl rfl rfl ?_
              refine JL_skip rfl rfl q1 rfl ?_
              refine JL_skip rfl rfl q1 rfl ?_
              refine JL_pd rfl (det_pick_f rfl q1 rfl) ?_
              refine JL_pd rfl (det_assign rfl) ?_
              exact hj (by kernel_rfl) (stsub_consB rfl (by clear hj; first | rfl | (simp only [q1, Bool.and_true, Bool.true_and, Bool.false_and, Bool.and_false, Bool.or_true, Bool.true_or, Bool.or_false, Bool.false_or, Bool.not_true, Bool.not_false]; done) | (simp [q1]; done) | (simp at q1; done) | (simp [q1] <;> omega) | (exfalso; simp at q1; omega)) stsub_nil)
          refine JL_nil ?_
          refine JE_block ?_
          refine JE_seq ?_
          refine JC_region ?_
          refine JL_pd rfl (det_move rfl) ?_
          refine JL_pd rfl (det_add rfl rfl ⟨by omega, by omega⟩) ?_
          refine JL_pd rfl (det_assign rfl) ?_
          refine JL_nil ?_
          -- stop: end
          refine JE_roundF hK3 (m + 1) (by omega) (by omega) (stsub_consI rfl (by omega) (stsub_consB rfl hsm.symm stsub_nil)) ht_nil
        · obtain rfl : m = xs.length := by omega
          rw [List.take_of_length_le (by omega)] at hb2
          refine JC_exit ?_
          refine JE_seq_exit ?_
          refine JE_then_exit ?_
          refine JE_block_here ?_
          refine JE_block ?_
          refine JE_seq ?_
          refine JC_region ?_
          refine JL_pd rfl (det_move rfl) ?_
          refine JL_pd rfl (det_add rfl rfl ⟨by omega, by omega⟩) ?_
          refine JL_pd rfl (det_assign rfl) ?_
          refine JL_nil ?_
          -- stop: end
          refine JE_roundF hK2 (j + 1) (by omega) (by omega) (stsub_consI rfl (by omega) (stsub_consB rfl (by rw [hsn, hb2]) stsub_nil)) ht_nil
      · have hfw : freeW (tk zs) xs[gi].g (i : Int) A = b := by
          rw [hours_all _ (by omega)] at hb; exact hb
        rw [hfw] at hfs
        refine JC_exit ?_
        refine JE_seq_exit ?_
        refine JE_then_exit ?_
        refine JE_block_here ?_
        refine JE_seq ?_
        refine JC_seq ?_
        refine JC_region ?_
        refine JL_pd rfl (det_move rfl) ?_
        refine JL_nil ?_
        refine JE_seq ?_
        -- stop: cond
        refine JC_cond rfl (fun h9 => ?_) (fun h9 => ?_)
        · rw [if_pos h9] at hfs
          have hlv : laneV (tk zs) k xs[gi].g A = some i := find_mono hfs (by omega)
          have hres : laterV (tk zs) k xs[gi].g = some ((i : Int), xs[gi].g.fr + A) := by
            unfold laterV
            refine laterN_mono (N := A + 1) ?_ (by omega)
            rw [laterN_snoc hno, hlv]; rfl
          refine JC_seq ?_
          refine JC_region ?_
          refine JL_pd rfl (det_move rfl) ?_
          refine JL_pd rfl (det_move rfl) ?_
          refine JL_pd rfl (det_assign rfl) ?_
          refine JL_pd rfl (det_assign rfl) ?_
          refine JL_pd rfl (det_assign rfl) ?_
          refine JL_nil ?_
          refine JE_seq ?_
          refine JC_ret ?_
          refine JE_block_ret ?_
          refine JE_seq_ret ?_
          refine JE_then_ret ?_
          refine JE_block_ret ?_
          refine JE_block_ret ?_
          refine JE_seq_ret ?_
          refine JE_then_ret ?_
          refine JE_block_ret ?_
          refine JE_seq_ret ?_
          -- stop: out
          refine JE_out (.inl rfl) () (results3 Try.results32 (res_tmp rfl) (res_tmp rfl) (res_tmp rfl)) (by rw [hres]; rfl) (List.Perm.refl _) (fun _ _ => trivial)
        · rw [if_neg (by rw [h9]; decide)] at hfs
          refine JC_skip ?_
          refine JE_block ?_
          refine JE_seq ?_
          refine JC_region ?_
          refine JL_pd rfl (det_move rfl) ?_
          refine JL_pd rfl (det_add rfl rfl ⟨by omega, by omega⟩) ?_
          refine JL_pd rfl (det_assign rfl) ?_
          refine JL_nil ?_
          -- stop: end
          refine JE_roundF hK1 (i + 1) ⟨by omega, hfs⟩ (by omega) (stsub_consI rfl (by omega) stsub_nil) ht_nil
    · obtain rfl : i = k := by omega
      refine JC_exit ?_
      refine JE_seq_exit ?_
      refine JE_then_exit ?_
      refine JE_block_here ?_
      refine JE_block ?_
      refine JE_seq ?_
      refine JC_region ?_
      refine JL_pd rfl (det_move rfl) ?_
      refine JL_pd rfl (det_add rfl rfl ⟨by omega, by omega⟩) ?_
      refine JL_pd rfl (det_assign rfl) ?_
      refine JL_nil ?_
      -- stop: end
      refine JE_roundF hK (A + 1) ⟨by omega, by rw [laterN_snoc hno, show laneV (tk zs) i xs[gi].g A = none from hni]; rfl⟩ (by omega) (stsub_consI rfl (by omega) stsub_nil) ht_nil
  · obtain rfl : A = (31 - xs[gi].g.hi).toNat := by omega
    have hres : laterV (tk zs) k xs[gi].g = none := hno
    refine JC_exit ?_
    refine JE_seq_exit ?_
    refine JE_then_exit ?_
    refine JE_block_here ?_
    refine JE_seq ?_
    refine JC_seq ?_
    refine JC_region ?_
    refine JL_pd rfl (det_assign rfl) ?_
    refine JL_pd rfl (det_assign rfl) ?_
    refine JL_pd rfl (det_assign rfl) ?_
    refine JL_nil ?_
    refine JE_seq ?_
    refine JC_ret ?_
    -- stop: out
    refine JE_out (.inl rfl) () (results3 Try.results32 (res_tmp rfl) (res_tmp rfl) (res_tmp rfl)) (by rw [hres]; rfl) (List.Perm.refl _) (fun _ _ => trivial)
set_option maxRecDepth 100000 in
set_option maxHeartbeats 1000000 in
theorem LendLaters_j (x : Hx) (ga : Option Addr) (gc : Nat) (xs : List Gx) (a : Option Addr) (cap : Nat) (plan : List Int) (group : Int) (hgr : -9223372036854775808 ≤ group ∧ group ≤ 9223372036854775807) : Cv Try.prog 4 [.agg #[I x.h.lanes, .slice x.a x.h.shoes.length x.c], .slice ga xs.length gc, .slice a plan.length cap, I group] (KAnd (KHx x) (KAnd (KGs ga gc xs) (KSl a plan.length cap encI plan))) (.bool true) := by
  refine Cx_of Try.func4 rfl Try.ntmps4 rfl fun w0 M0 => ?_
  refine JC_seq ?_
  refine JC_region ?_
  refine JL_step rfl rfl rfl (jo_box rfl rfl) fun b4 => ?_
  refine JL_pd rfl (det_assign rfl) ?_
  refine JL_nil ?_
  refine JE_seq ?_
  refine JC_seq ?_
  refine JC_seq ?_
  refine JC_region ?_
  refine JL_dt rfl (det_loadKA rfl Try.isAgg24 Try.sizeOf24 rfl rfl) ?_
  refine JL_pd rfl (det_move rfl) ?_
  refine JL_step rfl rfl rfl (jo_callv rfl rfl Try.call16 rfl (Thin_j x ga gc xs)) fun _ => ?_
  refine JL_pd rfl (det_not rfl) ?_
  refine JL_pd rfl (det_move rfl) ?_
  -- stop: guard 4
  refine JL_join1 4 24 (.bool (!thinB x.h (gs xs) || decide ((12 : Int) < (plan.length : Int)))) (fun hj => ?_) ?_
  · refine JL_split (d0 := 20) rfl (fun q3 => ?_) (fun q3 => ?_)
    · refine JL_skip rfl rfl q3 rfl ?_
      refine JL_skip rfl rfl q3 rfl ?_
      refine JL_skip rfl rfl q3 rfl ?_
      refine JL_pd rfl (det_pick_t rfl q3 rfl) ?_
      exact hj (by kernel_rfl) (stsub_consB rfl (by clear hj; first | rfl | (simp only [q3, Bool.and_true, Bool.true_and, Bool.false_and, Bool.and_false, Bool.or_true, Bool.true_or, Bool.or_false, Bool.false_or, Bool.not_true, Bool.not_false]; done) | (simp [q3]; done) | (simp at q3; done) | (simp [q3] <;> omega) | (exfalso; simp at q3; omega)) stsub_nil)
    · refine JL_guard rfl rfl q3 ?_
      refine JL_pd rfl (det_move rfl) ?_
      refine JL_guard rfl rfl q3 ?_
      refine JL_pd rfl (det_len rfl Try.runUnderlying22) ?_
      refine JL_guard rfl rfl q3 ?_
      refine JL_pd rfl (det_gtr rfl rfl) ?_
      refine JL_pd rfl (det_pick_f rfl q3 rfl) ?_
      exact hj (by kernel_rfl) (stsub_consB rfl (by clear hj; first | rfl | (simp only [q3, Bool.and_true, Bool.true_and, Bool.false_and, Bool.and_false, Bool.or_true, Bool.true_or, Bool.or_false, Bool.false_or, Bool.not_true, Bool.not_false]; done) | (simp [q3]; done) | (simp at q3; done) | (simp [q3] <;> omega) | (exfalso; simp at q3; omega)) stsub_nil)
  refine JL_nil ?_
  refine JE_seq ?_
  -- stop: cond
  refine JC_cond rfl (fun h1 => ?_) (fun h1 => ?_)
  · refine JC_seq ?_
    refine JC_region ?_
    refine JL_step rfl rfl rfl (jo_callv rfl rfl Try.call17 rfl (awake_j)) fun _ => ?_
    refine JL_pd rfl (det_assign rfl) ?_
    refine JL_nil ?_
    refine JE_seq ?_
    refine JC_ret ?_
    refine JE_seq_ret ?_
    -- stop: out
    refine JE_out (.inl rfl) () (results1 Try.results4 (res_tmp rfl)) rfl (List.Perm.refl _) (fun _ _ => trivial)
  · simp only [Bool.or_eq_false_iff, Bool.not_eq_false', decide_eq_false_iff_not] at h1
    obtain ⟨h1, h2⟩ := h1
    obtain ⟨t1, t2, t3⟩ := thin_lens h1
    have hgl : (gs xs).length = xs.length := List.length_map _
    rw [hgl] at t2
    have hpl : plan.length ≤ 12 := by omega
    have hft : ∀ y ∈ xs, y.g.feet.length ≤ 1000 := fun y hy => by have := t3 y.g (List.mem_map.2 ⟨y, hy, rfl⟩); omega
    have hpd := planned_jl x ga gc xs a cap plan
    have hlat := fun (q : QH) (g : QG xs) (c : QH) => Later_c x q xs g plan c.1 c.2 group
    by_cases c1 : fault x.h (gs xs) = 0
    · by_cases c2 : inI group 0 ((xs.length : Int) - 1) = true
      · obtain ⟨gi, rfl⟩ : ∃ gi : Nat, group = gi := ⟨group.toNat, by have := inI_iff.1 c2; omega⟩
        have hgi : gi < xs.length := by have := inI_iff.1 c2; omega
        have V := vld_of c1
        by_cases c3 : isPlan x.h.lanes (gs xs) plan = true
        · have c3' := c3
          rw [isPlan_eq, Bool.and_eq_true, decide_eq_true_eq] at c3'
          have hgp : gi < plan.length := by omega
          have hin := inI_iff.1 (List.all_eq_true.1 c3'.1 _ (List.getElem_mem hgp))
          have hgs : (gs xs)[((gi : Int)).toNat]! = xs[gi].g := gs_get xs gi hgi
          have hE : laterE x (gs xs) plan gi = if rightB (gs xs) plan = false ∨ plan[gi] ≠ -1 then (0, 0, 8) else later3 (laterV (tk ((gs xs).zip plan)) x.h.lanes.toNat xs[gi].g) := by
            unfold laterE
            rw [if_neg (by omega), if_neg (by rw [hgl, c3, c2]; simp), hgs, Int.toNat_natCast, List.getD_eq_getElem?_getD, List.getElem?_eq_getElem hgp]; rfl
          by_cases c4 : rightB (gs xs) plan = true
          · have hpe : plannedE x.h (gs xs) plan = 0 := by unfold plannedE; rw [if_neg (by omega), if_neg (by rw [c3]; decide), if_neg (by rw [c4]; decide)]
            rw [hpe] at hpd
            by_cases c5 : 0 ≤ plan[gi]
            · rw [if_pos (.inr (by omega))] at hE
              simp only [hE] at hlat
              refine JC_skip ?_
              refine JE_seq ?_
              refine JC_seq ?_
              refine JC_region ?_
              refine JL_dt rfl (det_loadKA rfl Try.isAgg24 Try.sizeOf24 rfl rfl) ?_
              refine JL_step rfl rfl rfl (jo_call rfl rfl Try.call19 rfl (lHouse_j x (by omega))) fun x28 => ?_
              refine JL_pd rfl (det_move rfl) ?_
              refine JL_step rfl rfl rfl (jo_call rfl rfl Try.call20 rfl (lGroups_j ga gc xs (by omega) hft)) fun x30 => ?_
              refine JL_pd rfl (det_move rfl) ?_
              refine JL_step rfl rfl rfl (jo_call rfl rfl Try.call23 rfl (lList_j plan a cap (by omega))) fun x32 => ?_
              refine JL_pd rfl (det_move rfl) ?_
              refine JL_step rfl rfl rfl (jo_callv rfl rfl Try.call30 rfl (hlat x28 x30 x32)) fun _ => ?_
              refine JL_pd rfl (det_move rfl) ?_
              refine JL_pd rfl (det_extract rfl rfl) ?_
              refine JL_pd rfl (det_extract rfl rfl) ?_
              refine JL_pd rfl (det_extract rfl rfl) ?_
              refine JL_pd rfl (det_assign rfl) ?_
              refine JL_pd rfl (det_assign rfl) ?_
              refine JL_pd rfl (det_assign rfl) ?_
              refine JL_nil ?_
              refine JE_seq ?_
              refine JC_seq ?_
              refine JC_region ?_
              refine JL_dt rfl (det_loadKA rfl Try.isAgg24 Try.sizeOf24 rfl rfl) ?_
              refine JL_pd rfl (det_move rfl) ?_
              refine JL_pd rfl (det_move rfl) ?_
              refine JL_step rfl rfl rfl (jo_callv rfl rfl Try.call25 rfl (hpd)) fun _ => ?_
              refine JL_pd rfl (det_assign rfl) ?_
              refine JL_nil ?_
              refine JE_seq ?_
              refine JC_seq ?_
              refine JC_seq ?_
              refine JC_region ?_
              refine JL_dt rfl (det_loadKA rfl Try.isAgg24 Try.sizeOf24 rfl rfl) ?_
              refine JL_pd rfl (det_move rfl) ?_
              refine JL_step rfl rfl rfl (jo_callv rfl rfl Try.call24 rfl (fault_jl x ga gc xs)) fun _ => ?_
              refine JL_pd rfl (det_eql rfl rfl) ?_
              refine JL_pd rfl (det_move rfl) ?_
              -- stop: guard 4
              refine JL_is (d0 := 46) true rfl (by exact decide_eq_true c1) (fun g1 => ?_)
              refine JL_guard rfl rfl g1 ?_
              refine JL_pd rfl (det_move rfl) ?_
              refine JL_guard rfl rfl g1 ?_
              refine JL_pd rfl (det_move rfl) ?_
              refine JL_guard rfl rfl g1 ?_
              refine JL_pd rfl (det_len rfl Try.runUnderlying25) ?_
              refine JL_guard rfl rfl g1 ?_
              refine JL_pd rfl (det_sub rfl rfl ⟨by omega, by omega⟩) ?_
              refine JL_guard rfl rfl g1 ?_
              refine JL_step rfl rfl rfl (jo_callv rfl rfl Try.call31 rfl (In_j _ _ _)) fun _ => ?_
              refine JL_guard rfl rfl g1 ?_
              refine JL_pd rfl (det_not rfl) ?_
              refine JL_pd rfl (det_pick_t rfl g1 rfl) ?_
              refine JL_nil ?_
              refine JE_seq ?_
              -- stop: cond
              refine JC_cond rfl (fun k1 => ?_) (fun k1 => ?_)
              · exact absurd k1 (by rw [c2]; decide)
              refine JC_skip ?_
              refine JE_seq ?_
              refine JC_seq ?_
              refine JC_seq ?_
              refine JC_region ?_
              refine JL_pd rfl (det_move rfl) ?_
              refine JL_pd rfl (det_eql rfl rfl) ?_
              refine JL_pd rfl (det_move rfl) ?_
              -- stop: guard 2
              refine JL_is (d0 := 56) true rfl (by rfl) (fun g2 => ?_)
              refine JL_guard rfl rfl g2 ?_
              refine JL_pd rfl (det_move rfl) ?_
              refine JL_guard rfl rfl g2 ?_
              refine JL_pd rfl (det_move rfl) ?_
              refine JL_guard rfl rfl g2 ?_
              refine JL_dt rfl (det_indexAddr rfl rfl (by first | rfl | omega) (by first | assumption | omega | decide) Try.runUnderlying22 Try.sizeOf3) ?_
              refine JL_guard rfl rfl g2 ?_
              refine JL_dt rfl (det_loadE rfl (by first | assumption | omega | decide) Try.isAgg3 rfl rfl) ?_
              refine JL_guard rfl rfl g2 ?_
              refine JL_pd rfl (det_geq rfl rfl) ?_
              refine JL_pd rfl (det_pick_t rfl g2 rfl) ?_
              refine JL_nil ?_
              refine JE_seq ?_
              -- stop: cond
              refine JC_if rfl (fun k2 => ?_) (fun k2 => ?_)
              · refine JC_region ?_
                refine JL_pd rfl (det_assign rfl) ?_
                refine JL_nil ?_
                refine JE_seq ?_
                refine JC_seq ?_
                refine JC_region ?_
                refine JL_pd rfl (det_assign rfl) ?_
                refine JL_pd rfl (det_assign rfl) ?_
                refine JL_nil ?_
                refine JE_seq ?_
                refine JC_seq ?_
                refine JC_seq ?_
                refine JC_region ?_
                refine JL_pd rfl (det_move rfl) ?_
                refine JL_pd rfl (det_eql rfl rfl) ?_
                refine JL_nil ?_
                refine JE_seq ?_
                -- stop: cond
                refine JC_if rfl (fun k3 => ?_) (fun k3 => ?_)
                · exact absurd k3 (by decide)
                refine JC_skip ?_
                refine JE_seq ?_
                refine JC_seq ?_
                refine JC_region ?_
                refine JL_pd rfl (det_move rfl) ?_
                refine JL_pd rfl (det_move rfl) ?_
                refine JL_pd rfl (det_eql rfl rfl) ?_
                refine JL_pd rfl (det_move rfl) ?_
                -- stop: guard 3
                refine JL_is (d0 := 79) true rfl (by simp) (fun h4 => ?_)
                refine JL_guard rfl rfl h4 ?_
                refine JL_pd rfl (det_move rfl) ?_
                refine JL_guard rfl rfl h4 ?_
                refine JL_pd rfl (det_move rfl) ?_
                refine JL_guard rfl rfl h4 ?_
                refine JL_pd rfl (det_eql rfl rfl) ?_
                refine JL_pd rfl (det_pick_t rfl h4 rfl) ?_
                refine JL_pd rfl (det_move rfl) ?_
                refine JL_is (d0 := 84) true rfl (by simp) (fun h5 => ?_)
                refine JL_guard rfl rfl h5 ?_
                refine JL_pd rfl (det_move rfl) ?_
                refine JL_guard rfl rfl h5 ?_
                refine JL_pd rfl (det_move rfl) ?_
                refine JL_guard rfl rfl h5 ?_
                refine JL_pd rfl (det_eql rfl rfl) ?_
                refine JL_pd rfl (det_pick_t rfl h5 rfl) ?_
                refine JL_pd rfl (det_move rfl) ?_
                refine JL_is (d0 := 89) true rfl (by simp) (fun h6 => ?_)
                refine JL_guard rfl rfl h6 ?_
                refine JL_step rfl rfl rfl (jo_callv rfl rfl Try.call17 rfl (awake_j)) fun _ => ?_
                refine JL_pd rfl (det_pick_t rfl h6 rfl) ?_
                refine JL_pd rfl (det_assign rfl) ?_
                refine JL_nil ?_
                refine JE_seq ?_
                refine JC_ret ?_
                refine JE_out (.inl rfl) () (results1 Try.results4 (res_tmp rfl)) ?_ (List.Perm.refl _) (fun _ _ => trivial)
                rfl
              · exact absurd c5 k2
            · rw [if_neg (by rw [c4]; simp; omega)] at hE
              obtain ⟨k, hk⟩ : ∃ k : Nat, x.h.lanes.toNat = k := ⟨_, rfl⟩
              have hkk : x.h.lanes = (k : Int) := by have := V.hs.l0; omega
              have hrl := RLater_j x ga gc xs a cap plan gi hgi (by omega) (by omega) k hkk (by have := V.hs.l1; omega) (V.gr _ (List.mem_map.2 ⟨_, List.getElem_mem hgi, rfl⟩))
              rw [hk] at hE
              cases hv : laterV (tk ((gs xs).zip plan)) k xs[gi].g with
              | some r =>
                rw [hv] at hrl hE
                simp only [hE, later3, laterT] at hlat hrl
                refine JC_skip ?_
                refine JE_seq ?_
                refine JC_seq ?_
                refine JC_region ?_
                refine JL_dt rfl (det_loadKA rfl Try.isAgg24 Try.sizeOf24 rfl rfl) ?_
                refine JL_step rfl rfl rfl (jo_call rfl rfl Try.call19 rfl (lHouse_j x (by omega))) fun x28 => ?_
                refine JL_pd rfl (det_move rfl) ?_
                refine JL_step rfl rfl rfl (jo_call rfl rfl Try.call20 rfl (lGroups_j ga gc xs (by omega) hft)) fun x30 => ?_
                refine JL_pd rfl (det_move rfl) ?_
                refine JL_step rfl rfl rfl (jo_call rfl rfl Try.call23 rfl (lList_j plan a cap (by omega))) fun x32 => ?_
                refine JL_pd rfl (det_move rfl) ?_
                refine JL_step rfl rfl rfl (jo_callv rfl rfl Try.call30 rfl (hlat x28 x30 x32)) fun _ => ?_
                refine JL_pd rfl (det_move rfl) ?_
                refine JL_pd rfl (det_extract rfl rfl) ?_
                refine JL_pd rfl (det_extract rfl rfl) ?_
                refine JL_pd rfl (det_extract rfl rfl) ?_
                refine JL_pd rfl (det_assign rfl) ?_
                refine JL_pd rfl (det_assign rfl) ?_
                refine JL_pd rfl (det_assign rfl) ?_
                refine JL_nil ?_
                refine JE_seq ?_
                refine JC_seq ?_
                refine JC_region ?_
                refine JL_dt rfl (det_loadKA rfl Try.isAgg24 Try.sizeOf24 rfl rfl) ?_
                refine JL_pd rfl (det_move rfl) ?_
                refine JL_pd rfl (det_move rfl) ?_
                refine JL_step rfl rfl rfl (jo_callv rfl rfl Try.call25 rfl (hpd)) fun _ => ?_
                refine JL_pd rfl (det_assign rfl) ?_
                refine JL_nil ?_
                refine JE_seq ?_
                refine JC_seq ?_
                refine JC_seq ?_
                refine JC_region ?_
                refine JL_dt rfl (det_loadKA rfl Try.isAgg24 Try.sizeOf24 rfl rfl) ?_
                refine JL_pd rfl (det_move rfl) ?_
                refine JL_step rfl rfl rfl (jo_callv rfl rfl Try.call24 rfl (fault_jl x ga gc xs)) fun _ => ?_
                refine JL_pd rfl (det_eql rfl rfl) ?_
                refine JL_pd rfl (det_move rfl) ?_
                -- stop: guard 4
                refine JL_is (d0 := 46) true rfl (by exact decide_eq_true c1) (fun g1 => ?_)
                refine JL_guard rfl rfl g1 ?_
                refine JL_pd rfl (det_move rfl) ?_
                refine JL_guard rfl rfl g1 ?_
                refine JL_pd rfl (det_move rfl) ?_
                refine JL_guard rfl rfl g1 ?_
                refine JL_pd rfl (det_len rfl Try.runUnderlying25) ?_
                refine JL_guard rfl rfl g1 ?_
                refine JL_pd rfl (det_sub rfl rfl ⟨by omega, by omega⟩) ?_
                refine JL_guard rfl rfl g1 ?_
                refine JL_step rfl rfl rfl (jo_callv rfl rfl Try.call31 rfl (In_j _ _ _)) fun _ => ?_
                refine JL_guard rfl rfl g1 ?_
                refine JL_pd rfl (det_not rfl) ?_
                refine JL_pd rfl (det_pick_t rfl g1 rfl) ?_
                refine JL_nil ?_
                refine JE_seq ?_
                -- stop: cond
                refine JC_cond rfl (fun k1 => ?_) (fun k1 => ?_)
                · exact absurd k1 (by rw [c2]; decide)
                refine JC_skip ?_
                refine JE_seq ?_
                refine JC_seq ?_
                refine JC_seq ?_
                refine JC_region ?_
                refine JL_pd rfl (det_move rfl) ?_
                refine JL_pd rfl (det_eql rfl rfl) ?_
                refine JL_pd rfl (det_move rfl) ?_
                -- stop: guard 2
                refine JL_is (d0 := 56) true rfl (by rfl) (fun g2 => ?_)
                refine JL_guard rfl rfl g2 ?_
                refine JL_pd rfl (det_move rfl) ?_
                refine JL_guard rfl rfl g2 ?_
                refine JL_pd rfl (det_move rfl) ?_
                refine JL_guard rfl rfl g2 ?_
                refine JL_dt rfl (det_indexAddr rfl rfl (by first | rfl | omega) (by first | assumption | omega | decide) Try.runUnderlying22 Try.sizeOf3) ?_
                refine JL_guard rfl rfl g2 ?_
                refine JL_dt rfl (det_loadE rfl (by first | assumption | omega | decide) Try.isAgg3 rfl rfl) ?_
                refine JL_guard rfl rfl g2 ?_
                refine JL_pd rfl (det_geq rfl rfl) ?_
                refine JL_pd rfl (det_pick_t rfl g2 rfl) ?_
                refine JL_nil ?_
                refine JE_seq ?_
                -- stop: cond
                refine JC_if rfl (fun k2 => ?_) (fun k2 => ?_)
                · exact absurd k2 c5
                refine JC_skip ?_
                refine JE_seq ?_
                refine JC_seq ?_
                refine JC_region ?_
                refine JL_pd rfl (det_assign rfl) ?_
                refine JL_pd rfl (det_assign rfl) ?_
                refine JL_nil ?_
                refine JE_seq ?_
                refine JC_seq ?_
                refine JC_seq ?_
                refine JC_region ?_
                refine JL_pd rfl (det_move rfl) ?_
                refine JL_pd rfl (det_eql rfl rfl) ?_
                refine JL_nil ?_
                refine JE_seq ?_
                -- stop: cond
                refine JC_if rfl (fun k3 => ?_) (fun k3 => ?_)
                · refine JC_seq ?_
                  refine JC_region ?_
                  refine JL_pd rfl (det_assign rfl) ?_
                  refine JL_nil ?_
                  refine JE_seq ?_
                  refine JC_seq ?_
                  refine JC_region ?_
                  refine JL_dt rfl (det_loadKA rfl Try.isAgg24 Try.sizeOf24 rfl rfl) ?_
                  refine JL_pd rfl (det_move rfl) ?_
                  refine JL_pd rfl (det_move rfl) ?_
                  refine JL_pd rfl (det_move rfl) ?_
                  refine JL_step rfl rfl rfl (jo_callv rfl rfl Try.call32 rfl (hrl)) fun _ => ?_
                  refine JL_pd rfl (det_move rfl) ?_
                  refine JL_pd rfl (det_extract rfl rfl) ?_
                  refine JL_pd rfl (det_extract rfl rfl) ?_
                  refine JL_pd rfl (det_extract rfl rfl) ?_
                  refine JL_pd rfl (det_assign rfl) ?_
                  refine JL_pd rfl (det_assign rfl) ?_
                  refine JL_pd rfl (det_assign rfl) ?_
                  refine JL_nil ?_
                  refine JE_seq ?_
                  refine JC_seq ?_
                  refine JC_region ?_
                  refine JL_pd rfl (det_move rfl) ?_
                  refine JL_pd rfl (det_not rfl) ?_
                  refine JL_nil ?_
                  refine JE_seq ?_
                  -- stop: cond
                  refine JC_cond rfl (fun k4 => ?_) (fun k4 => ?_)
                  · cases k4
                  refine JC_skip ?_
                  refine JE_seq ?_
                  refine JC_seq ?_
                  refine JC_region ?_
                  refine JL_pd rfl (det_move rfl) ?_
                  refine JL_pd rfl (det_move rfl) ?_
                  refine JL_pd rfl (det_eql rfl rfl) ?_
                  refine JL_pd rfl (det_move rfl) ?_
                  -- stop: guard 3
                  refine JL_is (d0 := 79) true rfl (by simp) (fun h7 => ?_)
                  refine JL_guard rfl rfl h7 ?_
                  refine JL_pd rfl (det_move rfl) ?_
                  refine JL_guard rfl rfl h7 ?_
                  refine JL_pd rfl (det_move rfl) ?_
                  refine JL_guard rfl rfl h7 ?_
                  refine JL_pd rfl (det_eql rfl rfl) ?_
                  refine JL_pd rfl (det_pick_t rfl h7 rfl) ?_
                  refine JL_pd rfl (det_move rfl) ?_
                  refine JL_is (d0 := 84) true rfl (by simp) (fun h8 => ?_)
                  refine JL_guard rfl rfl h8 ?_
                  refine JL_pd rfl (det_move rfl) ?_
                  refine JL_guard rfl rfl h8 ?_
                  refine JL_pd rfl (det_move rfl) ?_
                  refine JL_guard rfl rfl h8 ?_
                  refine JL_pd rfl (det_eql rfl rfl) ?_
                  refine JL_pd rfl (det_pick_t rfl h8 rfl) ?_
                  refine JL_pd rfl (det_move rfl) ?_
                  refine JL_is (d0 := 89) true rfl (by simp) (fun h9 => ?_)
                  refine JL_guard rfl rfl h9 ?_
                  refine JL_step rfl rfl rfl (jo_callv rfl rfl Try.call17 rfl (awake_j)) fun _ => ?_
                  refine JL_pd rfl (det_pick_t rfl h9 rfl) ?_
                  refine JL_pd rfl (det_assign rfl) ?_
                  refine JL_nil ?_
                  refine JE_seq ?_
                  refine JC_ret ?_
                  refine JE_out (.inl rfl) () (results1 Try.results4 (res_tmp rfl)) ?_ (List.Perm.refl _) (fun _ _ => trivial)
                  rfl
                · exact absurd rfl k3
              | none =>
                rw [hv] at hrl hE
                simp only [hE, later3, laterT] at hlat hrl
                refine JC_skip ?_
                refine JE_seq ?_
                refine JC_seq ?_
                refine JC_region ?_
                refine JL_dt rfl (det_loadKA rfl Try.isAgg24 Try.sizeOf24 rfl rfl) ?_
                refine JL_step rfl rfl rfl (jo_call rfl rfl Try.call19 rfl (lHouse_j x (by omega))) fun x28 => ?_
                refine JL_pd rfl (det_move rfl) ?_
                refine JL_step rfl rfl rfl (jo_call rfl rfl Try.call20 rfl (lGroups_j ga gc xs (by omega) hft)) fun x30 => ?_
                refine JL_pd rfl (det_move rfl) ?_
                refine JL_step rfl rfl rfl (jo_call rfl rfl Try.call23 rfl (lList_j plan a cap (by omega))) fun x32 => ?_
                refine JL_pd rfl (det_move rfl) ?_
                refine JL_step rfl rfl rfl (jo_callv rfl rfl Try.call30 rfl (hlat x28 x30 x32)) fun _ => ?_
                refine JL_pd rfl (det_move rfl) ?_
                refine JL_pd rfl (det_extract rfl rfl) ?_
                refine JL_pd rfl (det_extract rfl rfl) ?_
                refine JL_pd rfl (det_extract rfl rfl) ?_
                refine JL_pd rfl (det_assign rfl) ?_
                refine JL_pd rfl (det_assign rfl) ?_
                refine JL_pd rfl (det_assign rfl) ?_
                refine JL_nil ?_
                refine JE_seq ?_
                refine JC_seq ?_
                refine JC_region ?_
                refine JL_dt rfl (det_loadKA rfl Try.isAgg24 Try.sizeOf24 rfl rfl) ?_
                refine JL_pd rfl (det_move rfl) ?_
                refine JL_pd rfl (det_move rfl) ?_
                refine JL_step rfl rfl rfl (jo_callv rfl rfl Try.call25 rfl (hpd)) fun _ => ?_
                refine JL_pd rfl (det_assign rfl) ?_
                refine JL_nil ?_
                refine JE_seq ?_
                refine JC_seq ?_
                refine JC_seq ?_
                refine JC_region ?_
                refine JL_dt rfl (det_loadKA rfl Try.isAgg24 Try.sizeOf24 rfl rfl) ?_
                refine JL_pd rfl (det_move rfl) ?_
                refine JL_step rfl rfl rfl (jo_callv rfl rfl Try.call24 rfl (fault_jl x ga gc xs)) fun _ => ?_
                refine JL_pd rfl (det_eql rfl rfl) ?_
                refine JL_pd rfl (det_move rfl) ?_
                -- stop: guard 4
                refine JL_is (d0 := 46) true rfl (by exact decide_eq_true c1) (fun g1 => ?_)
                refine JL_guard rfl rfl g1 ?_
                refine JL_pd rfl (det_move rfl) ?_
                refine JL_guard rfl rfl g1 ?_
                refine JL_pd rfl (det_move rfl) ?_
                refine JL_guard rfl rfl g1 ?_
                refine JL_pd rfl (det_len rfl Try.runUnderlying25) ?_
                refine JL_guard rfl rfl g1 ?_
                refine JL_pd rfl (det_sub rfl rfl ⟨by omega, by omega⟩) ?_
                refine JL_guard rfl rfl g1 ?_
                refine JL_step rfl rfl rfl (jo_callv rfl rfl Try.call31 rfl (In_j _ _ _)) fun _ => ?_
                refine JL_guard rfl rfl g1 ?_
                refine JL_pd rfl (det_not rfl) ?_
                refine JL_pd rfl (det_pick_t rfl g1 rfl) ?_
                refine JL_nil ?_
                refine JE_seq ?_
                -- stop: cond
                refine JC_cond rfl (fun k1 => ?_) (fun k1 => ?_)
                · exact absurd k1 (by rw [c2]; decide)
                refine JC_skip ?_
                refine JE_seq ?_
                refine JC_seq ?_
                refine JC_seq ?_
                refine JC_region ?_
                refine JL_pd rfl (det_move rfl) ?_
                refine JL_pd rfl (det_eql rfl rfl) ?_
                refine JL_pd rfl (det_move rfl) ?_
                -- stop: guard 2
                refine JL_is (d0 := 56) true rfl (by rfl) (fun g2 => ?_)
                refine JL_guard rfl rfl g2 ?_
                refine JL_pd rfl (det_move rfl) ?_
                refine JL_guard rfl rfl g2 ?_
                refine JL_pd rfl (det_move rfl) ?_
                refine JL_guard rfl rfl g2 ?_
                refine JL_dt rfl (det_indexAddr rfl rfl (by first | rfl | omega) (by first | assumption | omega | decide) Try.runUnderlying22 Try.sizeOf3) ?_
                refine JL_guard rfl rfl g2 ?_
                refine JL_dt rfl (det_loadE rfl (by first | assumption | omega | decide) Try.isAgg3 rfl rfl) ?_
                refine JL_guard rfl rfl g2 ?_
                refine JL_pd rfl (det_geq rfl rfl) ?_
                refine JL_pd rfl (det_pick_t rfl g2 rfl) ?_
                refine JL_nil ?_
                refine JE_seq ?_
                -- stop: cond
                refine JC_if rfl (fun k2 => ?_) (fun k2 => ?_)
                · exact absurd k2 c5
                refine JC_skip ?_
                refine JE_seq ?_
                refine JC_seq ?_
                refine JC_region ?_
                refine JL_pd rfl (det_assign rfl) ?_
                refine JL_pd rfl (det_assign rfl) ?_
                refine JL_nil ?_
                refine JE_seq ?_
                refine JC_seq ?_
                refine JC_seq ?_
                refine JC_region ?_
                refine JL_pd rfl (det_move rfl) ?_
                refine JL_pd rfl (det_eql rfl rfl) ?_
                refine JL_nil ?_
                refine JE_seq ?_
                -- stop: cond
                refine JC_if rfl (fun k3 => ?_) (fun k3 => ?_)
                · refine JC_seq ?_
                  refine JC_region ?_
                  refine JL_pd rfl (det_assign rfl) ?_
                  refine JL_nil ?_
                  refine JE_seq ?_
                  refine JC_seq ?_
                  refine JC_region ?_
                  refine JL_dt rfl (det_loadKA rfl Try.isAgg24 Try.sizeOf24 rfl rfl) ?_
                  refine JL_pd rfl (det_move rfl) ?_
                  refine JL_pd rfl (det_move rfl) ?_
                  refine JL_pd rfl (det_move rfl) ?_
                  refine JL_step rfl rfl rfl (jo_callv rfl rfl Try.call32 rfl (hrl)) fun _ => ?_
                  refine JL_pd rfl (det_move rfl) ?_
                  refine JL_pd rfl (det_extract rfl rfl) ?_
                  refine JL_pd rfl (det_extract rfl rfl) ?_
                  refine JL_pd rfl (det_extract rfl rfl) ?_
                  refine JL_pd rfl (det_assign rfl) ?_
                  refine JL_pd rfl (det_assign rfl) ?_
                  refine JL_pd rfl (det_assign rfl) ?_
                  refine JL_nil ?_
                  refine JE_seq ?_
                  refine JC_seq ?_
                  refine JC_region ?_
                  refine JL_pd rfl (det_move rfl) ?_
                  refine JL_pd rfl (det_not rfl) ?_
                  refine JL_nil ?_
                  refine JE_seq ?_
                  -- stop: cond
                  refine JC_cond rfl (fun k4 => ?_) (fun k4 => ?_)
                  · refine JC_region ?_
                    refine JL_pd rfl (det_assign rfl) ?_
                    refine JL_pd rfl (det_assign rfl) ?_
                    refine JL_pd rfl (det_assign rfl) ?_
                    refine JL_nil ?_
                    refine JE_seq ?_
                    refine JC_seq ?_
                    refine JC_region ?_
                    refine JL_pd rfl (det_move rfl) ?_
                    refine JL_pd rfl (det_move rfl) ?_
                    refine JL_pd rfl (det_eql rfl rfl) ?_
                    refine JL_pd rfl (det_move rfl) ?_
                    -- stop: guard 3
                    refine JL_is (d0 := 79) true rfl (by simp) (fun h10 => ?_)
                    refine JL_guard rfl rfl h10 ?_
                    refine JL_pd rfl (det_move rfl) ?_
                    refine JL_guard rfl rfl h10 ?_
                    refine JL_pd rfl (det_move rfl) ?_
                    refine JL_guard rfl rfl h10 ?_
                    refine JL_pd rfl (det_eql rfl rfl) ?_
                    refine JL_pd rfl (det_pick_t rfl h10 rfl) ?_
                    refine JL_pd rfl (det_move rfl) ?_
                    refine JL_is (d0 := 84) true rfl (by simp) (fun h11 => ?_)
                    refine JL_guard rfl rfl h11 ?_
                    refine JL_pd rfl (det_move rfl) ?_
                    refine JL_guard rfl rfl h11 ?_
                    refine JL_pd rfl (det_move rfl) ?_
                    refine JL_guard rfl rfl h11 ?_
                    refine JL_pd rfl (det_eql rfl rfl) ?_
                    refine JL_pd rfl (det_pick_t rfl h11 rfl) ?_
                    refine JL_pd rfl (det_move rfl) ?_
                    refine JL_is (d0 := 89) true rfl (by simp) (fun h12 => ?_)
                    refine JL_guard rfl rfl h12 ?_
                    refine JL_step rfl rfl rfl (jo_callv rfl rfl Try.call17 rfl (awake_j)) fun _ => ?_
                    refine JL_pd rfl (det_pick_t rfl h12 rfl) ?_
                    refine JL_pd rfl (det_assign rfl) ?_
                    refine JL_nil ?_
                    refine JE_seq ?_
                    refine JC_ret ?_
                    refine JE_out (.inl rfl) () (results1 Try.results4 (res_tmp rfl)) ?_ (List.Perm.refl _) (fun _ _ => trivial)
                    rfl
                  · cases k4
                · exact absurd rfl k3
          · have hpe : plannedE x.h (gs xs) plan = 8 := by unfold plannedE; rw [if_neg (by omega), if_neg (by rw [c3]; decide), if_pos (by simpa using c4)]
            rw [if_pos (.inl (by simpa using c4))] at hE
            rw [hpe] at hpd
            simp only [hE] at hlat
            refine JC_skip ?_
            refine JE_seq ?_
            refine JC_seq ?_
            refine JC_region ?_
            refine JL_dt rfl (det_loadKA rfl Try.isAgg24 Try.sizeOf24 rfl rfl) ?_
            refine JL_step rfl rfl rfl (jo_call rfl rfl Try.call19 rfl (lHouse_j x (by omega))) fun x28 => ?_
            refine JL_pd rfl (det_move rfl) ?_
            refine JL_step rfl rfl rfl (jo_call rfl rfl Try.call20 rfl (lGroups_j ga gc xs (by omega) hft)) fun x30 => ?_
            refine JL_pd rfl (det_move rfl) ?_
            refine JL_step rfl rfl rfl (jo_call rfl rfl Try.call23 rfl (lList_j plan a cap (by omega))) fun x32 => ?_
            refine JL_pd rfl (det_move rfl) ?_
            refine JL_step rfl rfl rfl (jo_callv rfl rfl Try.call30 rfl (hlat x28 x30 x32)) fun _ => ?_
            refine JL_pd rfl (det_move rfl) ?_
            refine JL_pd rfl (det_extract rfl rfl) ?_
            refine JL_pd rfl (det_extract rfl rfl) ?_
            refine JL_pd rfl (det_extract rfl rfl) ?_
            refine JL_pd rfl (det_assign rfl) ?_
            refine JL_pd rfl (det_assign rfl) ?_
            refine JL_pd rfl (det_assign rfl) ?_
            refine JL_nil ?_
            refine JE_seq ?_
            refine JC_seq ?_
            refine JC_region ?_
            refine JL_dt rfl (det_loadKA rfl Try.isAgg24 Try.sizeOf24 rfl rfl) ?_
            refine JL_pd rfl (det_move rfl) ?_
            refine JL_pd rfl (det_move rfl) ?_
            refine JL_step rfl rfl rfl (jo_callv rfl rfl Try.call25 rfl (hpd)) fun _ => ?_
            refine JL_pd rfl (det_assign rfl) ?_
            refine JL_nil ?_
            refine JE_seq ?_
            refine JC_seq ?_
            refine JC_seq ?_
            refine JC_region ?_
            refine JL_dt rfl (det_loadKA rfl Try.isAgg24 Try.sizeOf24 rfl rfl) ?_
            refine JL_pd rfl (det_move rfl) ?_
            refine JL_step rfl rfl rfl (jo_callv rfl rfl Try.call24 rfl (fault_jl x ga gc xs)) fun _ => ?_
            refine JL_pd rfl (det_eql rfl rfl) ?_
            refine JL_pd rfl (det_move rfl) ?_
            -- stop: guard 4
            refine JL_is (d0 := 46) true rfl (by exact decide_eq_true c1) (fun g1 => ?_)
            refine JL_guard rfl rfl g1 ?_
            refine JL_pd rfl (det_move rfl) ?_
            refine JL_guard rfl rfl g1 ?_
            refine JL_pd rfl (det_move rfl) ?_
            refine JL_guard rfl rfl g1 ?_
            refine JL_pd rfl (det_len rfl Try.runUnderlying25) ?_
            refine JL_guard rfl rfl g1 ?_
            refine JL_pd rfl (det_sub rfl rfl ⟨by omega, by omega⟩) ?_
            refine JL_guard rfl rfl g1 ?_
            refine JL_step rfl rfl rfl (jo_callv rfl rfl Try.call31 rfl (In_j _ _ _)) fun _ => ?_
            refine JL_guard rfl rfl g1 ?_
            refine JL_pd rfl (det_not rfl) ?_
            refine JL_pd rfl (det_pick_t rfl g1 rfl) ?_
            refine JL_nil ?_
            refine JE_seq ?_
            -- stop: cond
            refine JC_cond rfl (fun k1 => ?_) (fun k1 => ?_)
            · exact absurd k1 (by rw [c2]; decide)
            refine JC_skip ?_
            refine JE_seq ?_
            refine JC_seq ?_
            refine JC_seq ?_
            refine JC_region ?_
            refine JL_pd rfl (det_move rfl) ?_
            refine JL_pd rfl (det_eql rfl rfl) ?_
            refine JL_pd rfl (det_move rfl) ?_
            -- stop: guard 2
            refine JL_is (d0 := 56) false rfl (by rfl) (fun g2 => ?_)
            refine JL_skip rfl rfl g2 rfl ?_
            refine JL_skip rfl rfl g2 rfl ?_
            refine JL_skip rfl rfl g2 rfl ?_
            refine JL_skip rfl rfl g2 rfl ?_
            refine JL_skip rfl rfl g2 rfl ?_
            refine JL_pd rfl (det_pick_f rfl g2 rfl) ?_
            refine JL_nil ?_
            refine JE_seq ?_
            refine JC_condF rfl rfl ?_
            refine JC_skip ?_
            refine JE_seq ?_
            refine JC_seq ?_
            refine JC_region ?_
            refine JL_pd rfl (det_assign rfl) ?_
            refine JL_pd rfl (det_assign rfl) ?_
            refine JL_nil ?_
            refine JE_seq ?_
            refine JC_seq ?_
            refine JC_seq ?_
            refine JC_region ?_
            refine JL_pd rfl (det_move rfl) ?_
            refine JL_pd rfl (det_eql rfl rfl) ?_
            refine JL_nil ?_
            refine JE_seq ?_
            -- stop: cond
            refine JC_if rfl (fun k3 => ?_) (fun k3 => ?_)
            · exact absurd k3 (by decide)
            refine JC_skip ?_
            refine JE_seq ?_
            refine JC_seq ?_
            refine JC_region ?_
            refine JL_pd rfl (det_move rfl) ?_
            refine JL_pd rfl (det_move rfl) ?_
            refine JL_pd rfl (det_eql rfl rfl) ?_
            refine JL_pd rfl (det_move rfl) ?_
            -- stop: guard 3
            refine JL_is (d0 := 79) true rfl (by simp) (fun h13 => ?_)
            refine JL_guard rfl rfl h13 ?_
            refine JL_pd rfl (det_move rfl) ?_
            refine JL_guard rfl rfl h13 ?_
            refine JL_pd rfl (det_move rfl) ?_
            refine JL_guard rfl rfl h13 ?_
            refine JL_pd rfl (det_eql rfl rfl) ?_
            refine JL_pd rfl (det_pick_t rfl h13 rfl) ?_
            refine JL_pd rfl (det_move rfl) ?_
            refine JL_is (d0 := 84) true rfl (by simp) (fun h14 => ?_)
            refine JL_guard rfl rfl h14 ?_
            refine JL_pd rfl (det_move rfl) ?_
            refine JL_guard rfl rfl h14 ?_
            refine JL_pd rfl (det_move rfl) ?_
            refine JL_guard rfl rfl h14 ?_
            refine JL_pd rfl (det_eql rfl rfl) ?_
            refine JL_pd rfl (det_pick_t rfl h14 rfl) ?_
            refine JL_pd rfl (det_move rfl) ?_
            refine JL_is (d0 := 89) true rfl (by simp) (fun h15 => ?_)
            refine JL_guard rfl rfl h15 ?_
            refine JL_step rfl rfl rfl (jo_callv rfl rfl Try.call17 rfl (awake_j)) fun _ => ?_
            refine JL_pd rfl (det_pick_t rfl h15 rfl) ?_
            refine JL_pd rfl (det_assign rfl) ?_
            refine JL_nil ?_
            refine JE_seq ?_
            refine JC_ret ?_
            refine JE_out (.inl rfl) () (results1 Try.results4 (res_tmp rfl)) ?_ (List.Perm.refl _) (fun _ _ => trivial)
            rfl
        · have hpe : plannedE x.h (gs xs) plan = 2 := by unfold plannedE; rw [if_neg (by omega), if_pos (by simpa using c3)]
          have hE : laterE x (gs xs) plan gi = (0, 0, 2) := by
            unfold laterE
            rw [if_neg (by omega), if_pos (.inl (by simpa using c3))]
          rw [hpe] at hpd
          simp only [hE] at hlat
          refine JC_skip ?_
          refine JE_seq ?_
          refine JC_seq ?_
          refine JC_region ?_
          refine JL_dt rfl (det_loadKA rfl Try.isAgg24 Try.sizeOf24 rfl rfl) ?_
          refine JL_step rfl rfl rfl (jo_call rfl rfl Try.call19 rfl (lHouse_j x (by omega))) fun x28 => ?_
          refine JL_pd rfl (det_move rfl) ?_
          refine JL_step rfl rfl rfl (jo_call rfl rfl Try.call20 rfl (lGroups_j ga gc xs (by omega) hft)) fun x30 => ?_
          refine JL_pd rfl (det_move rfl) ?_
          refine JL_step rfl rfl rfl (jo_call rfl rfl Try.call23 rfl (lList_j plan a cap (by omega))) fun x32 => ?_
          refine JL_pd rfl (det_move rfl) ?_
          refine JL_step rfl rfl rfl (jo_callv rfl rfl Try.call30 rfl (hlat x28 x30 x32)) fun _ => ?_
          refine JL_pd rfl (det_move rfl) ?_
          refine JL_pd rfl (det_extract rfl rfl) ?_
          refine JL_pd rfl (det_extract rfl rfl) ?_
          refine JL_pd rfl (det_extract rfl rfl) ?_
          refine JL_pd rfl (det_assign rfl) ?_
          refine JL_pd rfl (det_assign rfl) ?_
          refine JL_pd rfl (det_assign rfl) ?_
          refine JL_nil ?_
          refine JE_seq ?_
          refine JC_seq ?_
          refine JC_region ?_
          refine JL_dt rfl (det_loadKA rfl Try.isAgg24 Try.sizeOf24 rfl rfl) ?_
          refine JL_pd rfl (det_move rfl) ?_
          refine JL_pd rfl (det_move rfl) ?_
          refine JL_step rfl rfl rfl (jo_callv rfl rfl Try.call25 rfl (hpd)) fun _ => ?_
          refine JL_pd rfl (det_assign rfl) ?_
          refine JL_nil ?_
          refine JE_seq ?_
          refine JC_seq ?_
          refine JC_seq ?_
          refine JC_region ?_
          refine JL_dt rfl (det_loadKA rfl Try.isAgg24 Try.sizeOf24 rfl rfl) ?_
          refine JL_pd rfl (det_move rfl) ?_
          refine JL_step rfl rfl rfl (jo_callv rfl rfl Try.call24 rfl (fault_jl x ga gc xs)) fun _ => ?_
          refine JL_pd rfl (det_eql rfl rfl) ?_
          refine JL_pd rfl (det_move rfl) ?_
          -- stop: guard 4
          refine JL_is (d0 := 46) true rfl (by exact decide_eq_true c1) (fun g1 => ?_)
          refine JL_guard rfl rfl g1 ?_
          refine JL_pd rfl (det_move rfl) ?_
          refine JL_guard rfl rfl g1 ?_
          refine JL_pd rfl (det_move rfl) ?_
          refine JL_guard rfl rfl g1 ?_
          refine JL_pd rfl (det_len rfl Try.runUnderlying25) ?_
          refine JL_guard rfl rfl g1 ?_
          refine JL_pd rfl (det_sub rfl rfl ⟨by omega, by omega⟩) ?_
          refine JL_guard rfl rfl g1 ?_
          refine JL_step rfl rfl rfl (jo_callv rfl rfl Try.call31 rfl (In_j _ _ _)) fun _ => ?_
          refine JL_guard rfl rfl g1 ?_
          refine JL_pd rfl (det_not rfl) ?_
          refine JL_pd rfl (det_pick_t rfl g1 rfl) ?_
          refine JL_nil ?_
          refine JE_seq ?_
          -- stop: cond
          refine JC_cond rfl (fun k1 => ?_) (fun k1 => ?_)
          · exact absurd k1 (by rw [c2]; decide)
          refine JC_skip ?_
          refine JE_seq ?_
          refine JC_seq ?_
          refine JC_seq ?_
          refine JC_region ?_
          refine JL_pd rfl (det_move rfl) ?_
          refine JL_pd rfl (det_eql rfl rfl) ?_
          refine JL_pd rfl (det_move rfl) ?_
          -- stop: guard 2
          refine JL_is (d0 := 56) false rfl (by rfl) (fun g2 => ?_)
          refine JL_skip rfl rfl g2 rfl ?_
          refine JL_skip rfl rfl g2 rfl ?_
          refine JL_skip rfl rfl g2 rfl ?_
          refine JL_skip rfl rfl g2 rfl ?_
          refine JL_skip rfl rfl g2 rfl ?_
          refine JL_pd rfl (det_pick_f rfl g2 rfl) ?_
          refine JL_nil ?_
          refine JE_seq ?_
          refine JC_condF rfl rfl ?_
          refine JC_skip ?_
          refine JE_seq ?_
          refine JC_seq ?_
          refine JC_region ?_
          refine JL_pd rfl (det_assign rfl) ?_
          refine JL_pd rfl (det_assign rfl) ?_
          refine JL_nil ?_
          refine JE_seq ?_
          refine JC_seq ?_
          refine JC_seq ?_
          refine JC_region ?_
          refine JL_pd rfl (det_move rfl) ?_
          refine JL_pd rfl (det_eql rfl rfl) ?_
          refine JL_nil ?_
          refine JE_seq ?_
          -- stop: cond
          refine JC_if rfl (fun k3 => ?_) (fun k3 => ?_)
          · exact absurd k3 (by decide)
          refine JC_skip ?_
          refine JE_seq ?_
          refine JC_seq ?_
          refine JC_region ?_
          refine JL_pd rfl (det_move rfl) ?_
          refine JL_pd rfl (det_move rfl) ?_
          refine JL_pd rfl (det_eql rfl rfl) ?_
          refine JL_pd rfl (det_move rfl) ?_
          -- stop: guard 3
          refine JL_is (d0 := 79) true rfl (by simp) (fun h16 => ?_)
          refine JL_guard rfl rfl h16 ?_
          refine JL_pd rfl (det_move rfl) ?_
          refine JL_guard rfl rfl h16 ?_
          refine JL_pd rfl (det_move rfl) ?_
          refine JL_guard rfl rfl h16 ?_
          refine JL_pd rfl (det_eql rfl rfl) ?_
          refine JL_pd rfl (det_pick_t rfl h16 rfl) ?_
          refine JL_pd rfl (det_move rfl) ?_
          refine JL_is (d0 := 84) true rfl (by simp) (fun h17 => ?_)
          refine JL_guard rfl rfl h17 ?_
          refine JL_pd rfl (det_move rfl) ?_
          refine JL_guard rfl rfl h17 ?_
          refine JL_pd rfl (det_move rfl) ?_
          refine JL_guard rfl rfl h17 ?_
          refine JL_pd rfl (det_eql rfl rfl) ?_
          refine JL_pd rfl (det_pick_t rfl h17 rfl) ?_
          refine JL_pd rfl (det_move rfl) ?_
          refine JL_is (d0 := 89) true rfl (by simp) (fun h18 => ?_)
          refine JL_guard rfl rfl h18 ?_
          refine JL_step rfl rfl rfl (jo_callv rfl rfl Try.call17 rfl (awake_j)) fun _ => ?_
          refine JL_pd rfl (det_pick_t rfl h18 rfl) ?_
          refine JL_pd rfl (det_assign rfl) ?_
          refine JL_nil ?_
          refine JE_seq ?_
          refine JC_ret ?_
          refine JE_out (.inl rfl) () (results1 Try.results4 (res_tmp rfl)) ?_ (List.Perm.refl _) (fun _ _ => trivial)
          rfl
      · have hE : laterE x (gs xs) plan group = (0, 0, 2) := by
          unfold laterE
          rw [if_neg (by omega), if_pos (.inr (by rw [hgl]; simpa using c2))]
        simp only [hE] at hlat
        have c2' : inI group 0 ((xs.length : Int) - 1) = false := by simpa using c2
        refine JC_skip ?_
        refine JE_seq ?_
        refine JC_seq ?_
        refine JC_region ?_
        refine JL_dt rfl (det_loadKA rfl Try.isAgg24 Try.sizeOf24 rfl rfl) ?_
        refine JL_step rfl rfl rfl (jo_call rfl rfl Try.call19 rfl (lHouse_j x (by omega))) fun x28 => ?_
        refine JL_pd rfl (det_move rfl) ?_
        refine JL_step rfl rfl rfl (jo_call rfl rfl Try.call20 rfl (lGroups_j ga gc xs (by omega) hft)) fun x30 => ?_
        refine JL_pd rfl (det_move rfl) ?_
        refine JL_step rfl rfl rfl (jo_call rfl rfl Try.call23 rfl (lList_j plan a cap (by omega))) fun x32 => ?_
        refine JL_pd rfl (det_move rfl) ?_
        refine JL_step rfl rfl rfl (jo_callv rfl rfl Try.call30 rfl (hlat x28 x30 x32)) fun _ => ?_
        refine JL_pd rfl (det_move rfl) ?_
        refine JL_pd rfl (det_extract rfl rfl) ?_
        refine JL_pd rfl (det_extract rfl rfl) ?_
        refine JL_pd rfl (det_extract rfl rfl) ?_
        refine JL_pd rfl (det_assign rfl) ?_
        refine JL_pd rfl (det_assign rfl) ?_
        refine JL_pd rfl (det_assign rfl) ?_
        refine JL_nil ?_
        refine JE_seq ?_
        refine JC_seq ?_
        refine JC_region ?_
        refine JL_dt rfl (det_loadKA rfl Try.isAgg24 Try.sizeOf24 rfl rfl) ?_
        refine JL_pd rfl (det_move rfl) ?_
        refine JL_pd rfl (det_move rfl) ?_
        refine JL_step rfl rfl rfl (jo_callv rfl rfl Try.call25 rfl (hpd)) fun _ => ?_
        refine JL_pd rfl (det_assign rfl) ?_
        refine JL_nil ?_
        refine JE_seq ?_
        refine JC_seq ?_
        refine JC_seq ?_
        refine JC_region ?_
        refine JL_dt rfl (det_loadKA rfl Try.isAgg24 Try.sizeOf24 rfl rfl) ?_
        refine JL_pd rfl (det_move rfl) ?_
        refine JL_step rfl rfl rfl (jo_callv rfl rfl Try.call24 rfl (fault_jl x ga gc xs)) fun _ => ?_
        refine JL_pd rfl (det_eql rfl rfl) ?_
        refine JL_pd rfl (det_move rfl) ?_
        -- stop: guard 4
        refine JL_is (d0 := 46) true rfl (by exact decide_eq_true c1) (fun g1 => ?_)
        refine JL_guard rfl rfl g1 ?_
        refine JL_pd rfl (det_move rfl) ?_
        refine JL_guard rfl rfl g1 ?_
        refine JL_pd rfl (det_move rfl) ?_
        refine JL_guard rfl rfl g1 ?_
        refine JL_pd rfl (det_len rfl Try.runUnderlying25) ?_
        refine JL_guard rfl rfl g1 ?_
        refine JL_pd rfl (det_sub rfl rfl ⟨by omega, by omega⟩) ?_
        refine JL_guard rfl rfl g1 ?_
        refine JL_step rfl rfl rfl (jo_callv rfl rfl Try.call31 rfl (In_j _ _ _)) fun _ => ?_
        refine JL_guard rfl rfl g1 ?_
        refine JL_pd rfl (det_not rfl) ?_
        refine JL_pd rfl (det_pick_t rfl g1 rfl) ?_
        refine JL_nil ?_
        refine JE_seq ?_
        -- stop: cond
        refine JC_cond rfl (fun k1 => ?_) (fun k1 => ?_)
        · refine JC_region ?_
          refine JL_pd rfl (det_assign rfl) ?_
          refine JL_nil ?_
          refine JE_seq ?_
          refine JC_seq ?_
          refine JC_seq ?_
          refine JC_region ?_
          refine JL_pd rfl (det_move rfl) ?_
          refine JL_pd rfl (det_eql rfl rfl) ?_
          refine JL_pd rfl (det_move rfl) ?_
          -- stop: guard 2
          refine JL_is (d0 := 56) false rfl (by rfl) (fun g2 => ?_)
          refine JL_skip rfl rfl g2 rfl ?_
          refine JL_skip rfl rfl g2 rfl ?_
          refine JL_skip rfl rfl g2 rfl ?_
          refine JL_skip rfl rfl g2 rfl ?_
          refine JL_skip rfl rfl g2 rfl ?_
          refine JL_pd rfl (det_pick_f rfl g2 rfl) ?_
          refine JL_nil ?_
          refine JE_seq ?_
          refine JC_condF rfl rfl ?_
          refine JC_skip ?_
          refine JE_seq ?_
          refine JC_seq ?_
          refine JC_region ?_
          refine JL_pd rfl (det_assign rfl) ?_
          refine JL_pd rfl (det_assign rfl) ?_
          refine JL_nil ?_
          refine JE_seq ?_
          refine JC_seq ?_
          refine JC_seq ?_
          refine JC_region ?_
          refine JL_pd rfl (det_move rfl) ?_
          refine JL_pd rfl (det_eql rfl rfl) ?_
          refine JL_nil ?_
          refine JE_seq ?_
          -- stop: cond
          refine JC_if rfl (fun k3 => ?_) (fun k3 => ?_)
          · exact absurd k3 (by decide)
          refine JC_skip ?_
          refine JE_seq ?_
          refine JC_seq ?_
          refine JC_region ?_
          refine JL_pd rfl (det_move rfl) ?_
          refine JL_pd rfl (det_move rfl) ?_
          refine JL_pd rfl (det_eql rfl rfl) ?_
          refine JL_pd rfl (det_move rfl) ?_
          -- stop: guard 3
          refine JL_is (d0 := 79) true rfl (by simp) (fun h19 => ?_)
          refine JL_guard rfl rfl h19 ?_
          refine JL_pd rfl (det_move rfl) ?_
          refine JL_guard rfl rfl h19 ?_
          refine JL_pd rfl (det_move rfl) ?_
          refine JL_guard rfl rfl h19 ?_
          refine JL_pd rfl (det_eql rfl rfl) ?_
          refine JL_pd rfl (det_pick_t rfl h19 rfl) ?_
          refine JL_pd rfl (det_move rfl) ?_
          refine JL_is (d0 := 84) true rfl (by simp) (fun h20 => ?_)
          refine JL_guard rfl rfl h20 ?_
          refine JL_pd rfl (det_move rfl) ?_
          refine JL_guard rfl rfl h20 ?_
          refine JL_pd rfl (det_move rfl) ?_
          refine JL_guard rfl rfl h20 ?_
          refine JL_pd rfl (det_eql rfl rfl) ?_
          refine JL_pd rfl (det_pick_t rfl h20 rfl) ?_
          refine JL_pd rfl (det_move rfl) ?_
          refine JL_is (d0 := 89) true rfl (by simp) (fun h21 => ?_)
          refine JL_guard rfl rfl h21 ?_
          refine JL_step rfl rfl rfl (jo_callv rfl rfl Try.call17 rfl (awake_j)) fun _ => ?_
          refine JL_pd rfl (det_pick_t rfl h21 rfl) ?_
          refine JL_pd rfl (det_assign rfl) ?_
          refine JL_nil ?_
          refine JE_seq ?_
          refine JC_ret ?_
          refine JE_out (.inl rfl) () (results1 Try.results4 (res_tmp rfl)) ?_ (List.Perm.refl _) (fun _ _ => trivial)
          rfl
        · exact absurd k1 (by rw [c2']; decide)
    · have hpe : plannedE x.h (gs xs) plan = fault x.h (gs xs) := by unfold plannedE; rw [if_pos c1]
      have hE : laterE x (gs xs) plan group = (0, 0, fault x.h (gs xs)) := by
        unfold laterE
        rw [if_pos c1]
      rw [hpe] at hpd
      simp only [hE] at hlat
      refine JC_skip ?_
      refine JE_seq ?_
      refine JC_seq ?_
      refine JC_region ?_
      refine JL_dt rfl (det_loadKA rfl Try.isAgg24 Try.sizeOf24 rfl rfl) ?_
      refine JL_step rfl rfl rfl (jo_call rfl rfl Try.call19 rfl (lHouse_j x (by omega))) fun x28 => ?_
      refine JL_pd rfl (det_move rfl) ?_
      refine JL_step rfl rfl rfl (jo_call rfl rfl Try.call20 rfl (lGroups_j ga gc xs (by omega) hft)) fun x30 => ?_
      refine JL_pd rfl (det_move rfl) ?_
      refine JL_step rfl rfl rfl (jo_call rfl rfl Try.call23 rfl (lList_j plan a cap (by omega))) fun x32 => ?_
      refine JL_pd rfl (det_move rfl) ?_
      refine JL_step rfl rfl rfl (jo_callv rfl rfl Try.call30 rfl (hlat x28 x30 x32)) fun _ => ?_
      refine JL_pd rfl (det_move rfl) ?_
      refine JL_pd rfl (det_extract rfl rfl) ?_
      refine JL_pd rfl (det_extract rfl rfl) ?_
      refine JL_pd rfl (det_extract rfl rfl) ?_
      refine JL_pd rfl (det_assign rfl) ?_
      refine JL_pd rfl (det_assign rfl) ?_
      refine JL_pd rfl (det_assign rfl) ?_
      refine JL_nil ?_
      refine JE_seq ?_
      refine JC_seq ?_
      refine JC_region ?_
      refine JL_dt rfl (det_loadKA rfl Try.isAgg24 Try.sizeOf24 rfl rfl) ?_
      refine JL_pd rfl (det_move rfl) ?_
      refine JL_pd rfl (det_move rfl) ?_
      refine JL_step rfl rfl rfl (jo_callv rfl rfl Try.call25 rfl (hpd)) fun _ => ?_
      refine JL_pd rfl (det_assign rfl) ?_
      refine JL_nil ?_
      refine JE_seq ?_
      refine JC_seq ?_
      refine JC_seq ?_
      refine JC_region ?_
      refine JL_dt rfl (det_loadKA rfl Try.isAgg24 Try.sizeOf24 rfl rfl) ?_
      refine JL_pd rfl (det_move rfl) ?_
      refine JL_step rfl rfl rfl (jo_callv rfl rfl Try.call24 rfl (fault_jl x ga gc xs)) fun _ => ?_
      refine JL_pd rfl (det_eql rfl rfl) ?_
      refine JL_pd rfl (det_move rfl) ?_
      -- stop: guard 4
      refine JL_is (d0 := 46) false rfl (by exact decide_eq_false c1) (fun g1 => ?_)
      refine JL_skip rfl rfl g1 rfl ?_
      refine JL_skip rfl rfl g1 rfl ?_
      refine JL_skip rfl rfl g1 rfl ?_
      refine JL_skip rfl rfl g1 rfl ?_
      refine JL_skip rfl rfl g1 rfl ?_
      refine JL_skip rfl rfl g1 rfl ?_
      refine JL_pd rfl (det_pick_f rfl g1 rfl) ?_
      refine JL_nil ?_
      refine JE_seq ?_
      refine JC_condF rfl rfl ?_
      refine JC_skip ?_
      refine JE_seq ?_
      refine JC_seq ?_
      refine JC_seq ?_
      refine JC_region ?_
      refine JL_pd rfl (det_move rfl) ?_
      refine JL_pd rfl (det_eql rfl rfl) ?_
      refine JL_pd rfl (det_move rfl) ?_
      -- stop: guard 2
      refine JL_is (d0 := 56) false rfl (by exact decide_eq_false c1) (fun g2 => ?_)
      refine JL_skip rfl rfl g2 rfl ?_
      refine JL_skip rfl rfl g2 rfl ?_
      refine JL_skip rfl rfl g2 rfl ?_
      refine JL_skip rfl rfl g2 rfl ?_
      refine JL_skip rfl rfl g2 rfl ?_
      refine JL_pd rfl (det_pick_f rfl g2 rfl) ?_
      refine JL_nil ?_
      refine JE_seq ?_
      refine JC_condF rfl rfl ?_
      refine JC_skip ?_
      refine JE_seq ?_
      refine JC_seq ?_
      refine JC_region ?_
      refine JL_pd rfl (det_assign rfl) ?_
      refine JL_pd rfl (det_assign rfl) ?_
      refine JL_nil ?_
      refine JE_seq ?_
      refine JC_seq ?_
      refine JC_seq ?_
      refine JC_region ?_
      refine JL_pd rfl (det_move rfl) ?_
      refine JL_pd rfl (det_eql rfl rfl) ?_
      refine JL_nil ?_
      refine JE_seq ?_
      -- stop: cond
      refine JC_if rfl (fun k3 => ?_) (fun k3 => ?_)
      · exact absurd k3 c1
      refine JC_skip ?_
      refine JE_seq ?_
      refine JC_seq ?_
      refine JC_region ?_
      refine JL_pd rfl (det_move rfl) ?_
      refine JL_pd rfl (det_move rfl) ?_
      refine JL_pd rfl (det_eql rfl rfl) ?_
      refine JL_pd rfl (det_move rfl) ?_
      -- stop: guard 3
      refine JL_is (d0 := 79) true rfl (by simp) (fun h22 => ?_)
      refine JL_guard rfl rfl h22 ?_
      refine JL_pd rfl (det_move rfl) ?_
      refine JL_guard rfl rfl h22 ?_
      refine JL_pd rfl (det_move rfl) ?_
      refine JL_guard rfl rfl h22 ?_
      refine JL_pd rfl (det_eql rfl rfl) ?_
      refine JL_pd rfl (det_pick_t rfl h22 rfl) ?_
      refine JL_pd rfl (det_move rfl) ?_
      refine JL_is (d0 := 84) true rfl (by simp) (fun h23 => ?_)
      refine JL_guard rfl rfl h23 ?_
      refine JL_pd rfl (det_move rfl) ?_
      refine JL_guard rfl rfl h23 ?_
      refine JL_pd rfl (det_move rfl) ?_
      refine JL_guard rfl rfl h23 ?_
      refine JL_pd rfl (det_eql rfl rfl) ?_
      refine JL_pd rfl (det_pick_t rfl h23 rfl) ?_
      refine JL_pd rfl (det_move rfl) ?_
      refine JL_is (d0 := 89) true rfl (by simp) (fun h24 => ?_)
      refine JL_guard rfl rfl h24 ?_
      refine JL_step rfl rfl rfl (jo_callv rfl rfl Try.call17 rfl (awake_j)) fun _ => ?_
      refine JL_pd rfl (det_pick_t rfl h24 rfl) ?_
      refine JL_pd rfl (det_assign rfl) ?_
      refine JL_nil ?_
      refine JE_seq ?_
      refine JC_ret ?_
      refine JE_out (.inl rfl) () (results1 Try.results4 (res_tmp rfl)) ?_ (List.Perm.refl _) (fun _ _ => trivial)
      rfl
end Go.Proofs.Ytkmaafnbefpdjaa
