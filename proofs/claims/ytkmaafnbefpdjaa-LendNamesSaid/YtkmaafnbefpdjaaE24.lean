/- The statements about lend: LendBounds, LendProof. -/
import Derived.Test.YtkmaafnbefpdjaaB9
import Derived.Test.YtkmaafnbefpdjaaE23
import Derived.Test.YtkmaafnbefpdjaaE17
set_option linter.unusedSimpArgs false
set_option linter.unusedVariables false
namespace Go.Proofs.Ytkmaafnbefpdjaa
open Go.RowKit Go.Shelf

set_option maxRecDepth 100000 in
theorem RBound_j (x : Hx) (ga : Option Addr) (gc : Nat) (xs : List Gx) (a : Option Addr) (cap : Nat) (T : List Int) (hl : 0 ≤ x.h.lanes ∧ x.h.lanes ≤ 5) (hn : xs.length ≤ 8) (hT : T.length ≤ 1000) :
    Cv Try.prog 45 [.agg #[I x.h.lanes, .slice x.a x.h.shoes.length x.c], .slice ga xs.length gc, .slice a T.length cap] (KAnd (KSl ga xs.length gc encG xs) (KSl a T.length cap encI T)) (I ((boundL x.h.lanes.toNat (gs xs) T : Nat) : Int)) := by
  have hm : 0 ≤ x.h.lanes * (T.length : Int) ∧ x.h.lanes * (T.length : Int) ≤ 5000 := ⟨Int.mul_nonneg hl.1 (by omega), by have := Int.mul_le_mul hl.2 (show (T.length : Int) ≤ 1000 by omega) (by omega) (by omega); omega⟩
  refine Cx_of Try.func45 rfl Try.ntmps45 rfl fun w0 M0 => ?_
  refine JC_seq ?_
  refine JC_region ?_
  refine JL_step rfl rfl rfl (jo_box rfl rfl) fun b3 => ?_
  refine JL_pd rfl (det_assign rfl) ?_
  refine JL_nil ?_
  refine JE_seq ?_
  refine JC_seq ?_
  refine JC_region ?_
  refine JL_pd rfl (det_fieldAddr rfl fo_24_0) ?_
  refine JL_dt rfl (det_loadK rfl Try.isAgg3 rfl) ?_
  refine JL_pd rfl (det_move rfl) ?_
  refine JL_pd rfl (det_len rfl Try.runUnderlying22) ?_
  refine JL_pd rfl (det_mul rfl rfl ⟨by omega, by omega⟩) ?_
  refine JL_pd rfl (det_assign rfl) ?_
  refine JL_nil ?_
  refine JE_seq ?_
  refine JC_seq ?_
  refine JC_seq ?_
  refine JC_region ?_
  refine JL_pd rfl (det_assign rfl) ?_
  refine JL_nil ?_
  refine JE_seq ?_
  refine JC_block ?_
  -- stop: loop
  refine JC_loopF (γ := Nat) (fun i => i ≤ xs.length) (fun i => [(8, I i), (7, I (x.h.lanes * (T.length : Int) + ((xs.take i).countP fun y => !hit T y.g : Nat)))]) (fun _ => []) (fun i => xs.length - i) 0 (Nat.zero_le _) (stsub_consI rfl rfl (stsub_consI rfl (by simp) stsub_nil)) ht_nil ?_
  intro i hi K hK
  dsimp only [List.cons_append, List.nil_append]
  have hcl : (xs.take i).countP (fun y => !hit T y.g) ≤ xs.length := Nat.le_trans List.countP_le_length (by rw [List.length_take]; omega)
  refine JC_seq ?_
  refine JC_seq ?_
  refine JC_region ?_
  refine JL_pd rfl (det_move rfl) ?_
  refine JL_pd rfl (det_move rfl) ?_
  refine JL_pd rfl (det_len rfl Try.runUnderlying25) ?_
  refine JL_pd rfl (det_lss rfl rfl) ?_
  refine JL_nil ?_
  refine JE_seq ?_
  -- stop: cond
  refine JC_if rfl (fun h1 => ?_) (fun h1 => ?_)
  · have hi2 : i < xs.length := by omega
    have hs := countP_snoc (fun y : Gx => !hit T y.g) xs i hi2
    refine JC_skip ?_
    refine JE_seq ?_
    refine JC_seq ?_
    refine JC_block ?_
    refine JC_seq ?_
    refine JC_region ?_
    refine JL_pd rfl (det_assign rfl) ?_
    refine JL_nil ?_
    refine JE_seq ?_
    refine JC_seq ?_
    refine JC_seq ?_
    refine JC_region ?_
    refine JL_pd rfl (det_assign rfl) ?_
    refine JL_nil ?_
    refine JE_seq ?_
    refine JC_block ?_
    -- stop: loop
    refine JC_loopF (γ := Nat) (fun k => k ≤ T.length) (fun k => [(10, I k), (9, .bool ((T.take k).any fun t => stays xs[i].g t))]) (fun _ => []) (fun k => T.length - k) 0 (Nat.zero_le _) (stsub_consI rfl rfl (stsub_consB rfl rfl stsub_nil)) ht_nil ?_
    intro k hk K1 hK1
    dsimp only [List.cons_append, List.nil_append]
    generalize hb : ((T.take k).any fun t => stays xs[i].g t) = b
    refine JC_seq ?_
    refine JC_seq ?_
    refine JC_region ?_
    refine JL_pd rfl (det_move rfl) ?_
    refine JL_pd rfl (det_move rfl) ?_
    refine JL_pd rfl (det_len rfl Try.runUnderlying22) ?_
    refine JL_pd rfl (det_lss rfl rfl) ?_
    refine JL_nil ?_
    refine JE_seq ?_
    -- stop: cond
    refine JC_if rfl (fun h2 => ?_) (fun h2 => ?_)
    · have hk2 : k < T.length := by omega
      have hsn : ((T.take (k + 1)).any fun t => stays xs[i].g t) = (b || stays xs[i].g T[k]) := by rw [take_snoc hk2, List.any_append, hb]; simp
      cases b with
      | true =>
        refine JC_skip ?_
        refine JE_seq ?_
        refine JC_seq ?_
        refine JC_block ?_
        refine JC_draw [] (by kernel_rfl) ?_
        refine JA_pd (i := 0) rfl (by kernel_rfl) rfl rfl (det_move rfl) ?_
        refine JA_pd (i := 1) rfl (by kernel_rfl) rfl rfl (det_move rfl) ?_
        -- stop: guard 1
        refine JA_is (d0 := 29) true rfl (by rfl) (fun g1 => ?_)
        refine JA_skip (i := 2) rfl (by kernel_rfl) rfl rfl rfl rfl g1 ?_
        refine JA_skip (i := 3) rfl (by kernel_rfl) rfl rfl rfl rfl g1 ?_
        refine JA_skip (i := 4) rfl (by kernel_rfl) rfl rfl rfl rfl g1 ?_
        refine JA_skip (i := 5) rfl (by kernel_rfl) rfl rfl rfl rfl g1 ?_
        refine JA_skip (i := 6) rfl (by kernel_rfl) rfl rfl rfl rfl g1 ?_
        refine JA_skip (i := 7) rfl (by kernel_rfl) rfl rfl rfl rfl g1 ?_
        refine JA_skip (i := 8) rfl (by kernel_rfl) rfl rfl rfl rfl g1 ?_
        refine JA_skip (i := 9) rfl (by kernel_rfl) rfl rfl rfl rfl g1 ?_
        refine JA_skip (i := 10) rfl (by kernel_rfl) rfl rfl rfl rfl g1 ?_
        refine JA_pd (i := 11) rfl (by kernel_rfl) rfl rfl (det_pick_t rfl g1 rfl) ?_
        refine JA_pd (i := 12) rfl (by kernel_rfl) rfl rfl (det_assign rfl) ?_
        refine JA_done (by kernel_rfl) ?_
        refine JE_block ?_
        refine JE_seq ?_
        refine JC_region ?_
        refine JL_pd rfl (det_move rfl) ?_
        refine JL_pd rfl (det_add rfl rfl ⟨by omega, by omega⟩) ?_
        refine JL_pd rfl (det_assign rfl) ?_
        refine JL_nil ?_
        -- stop: end
        refine JE_roundF hK1 (k + 1) (by omega) (by omega) (stsub_consI rfl (by omega) (stsub_consB rfl (by rw [hsn]; rfl) stsub_nil)) ht_nil
      | false =>
        refine JC_skip ?_
        refine JE_seq ?_
        refine JC_seq ?_
        refine JC_block ?_
        refine JC_draw [] (by kernel_rfl) ?_
        refine JA_pd (i := 0) rfl (by kernel_rfl) rfl rfl (det_move rfl) ?_
        refine JA_pd (i := 1) rfl (by kernel_rfl) rfl rfl (det_move rfl) ?_
        -- stop: guard 1
        refine JA_is (d0 := 29) false rfl (by rfl) (fun g1 => ?_)
        refine JA_gpd (i := 2) rfl (by kernel_rfl) rfl rfl rfl rfl g1 (det_move rfl) ?_
        refine JA_gpd (i := 3) rfl (by kernel_rfl) rfl rfl rfl rfl g1 (det_move rfl) ?_
        refine JA_gdt (i := 4) rfl (by kernel_rfl) (by kernel_rfl) rfl rfl rfl rfl g1 (det_indexAddr rfl rfl (by first | rfl | omega) (by first | assumption | omega | decide) Try.runUnderlying25 Try.sizeOf55) ?_
        refine JA_gdt (i := 5) rfl (by kernel_rfl) (by kernel_rfl) rfl rfl rfl rfl g1 (det_loadEA rfl (by first | assumption | omega | decide) Try.isAgg55 Try.sizeOf55 rfl rfl rfl) ?_
        refine JA_gpd (i := 6) rfl (by kernel_rfl) rfl rfl rfl rfl g1 (det_move rfl) ?_
        refine JA_gpd (i := 7) rfl (by kernel_rfl) rfl rfl rfl rfl g1 (det_move rfl) ?_
        refine JA_gdt (i := 8) rfl (by kernel_rfl) (by kernel_rfl) rfl rfl rfl rfl g1 (det_indexAddr rfl rfl (by first | rfl | omega) (by first | assumption | omega | decide) Try.runUnderlying22 Try.sizeOf3) ?_
        refine JA_gdt (i := 9) rfl (by kernel_rfl) (by kernel_rfl) rfl rfl rfl rfl g1 (det_loadE rfl (by first | assumption | omega | decide) Try.isAgg3 rfl rfl) ?_
        refine JA_gone (i := 10) (by kernel_rfl) rfl rfl rfl g1 rfl (jo_callv rfl rfl Try.call68 rfl (Stays_j _ _)) (fun _ => ⟨hsub_refl, fun _ h => h⟩) fun _ => ?_
        refine JA_pd (i := 11) rfl (by kernel_rfl) rfl rfl (det_pick_f rfl g1 rfl) ?_
        refine JA_pd (i := 12) rfl (by kernel_rfl) rfl rfl (det_assign rfl) ?_
        refine JA_done (by kernel_rfl) ?_
        refine JE_block ?_
        refine JE_seq ?_
        refine JC_region ?_
        refine JL_pd rfl (det_move rfl) ?_
        refine JL_pd rfl (det_add rfl rfl ⟨by omega, by omega⟩) ?_
        refine JL_pd rfl (det_assign rfl) ?_
        refine JL_nil ?_
        -- stop: end
        refine JE_roundF hK1 (k + 1) (by omega) (by omega) (stsub_consI rfl (by omega) (stsub_consB rfl (by rw [hsn]; rfl) stsub_nil)) ht_nil
    · obtain rfl : k = T.length := by omega
      rw [List.take_length] at hb
      have hb' : hit T xs[i].g = b := hb
      refine JC_exit ?_
      refine JE_seq_exit ?_
      refine JE_then_exit ?_
      refine JE_block_here ?_
      refine JE_seq ?_
      refine JC_seq ?_
      refine JC_region ?_
      refine JL_pd rfl (det_move rfl) ?_
      refine JL_pd rfl (det_not rfl) ?_
      refine JL_nil ?_
      refine JE_seq ?_
      -- stop: cond
      refine JC_cond rfl (fun h3 => ?_) (fun h3 => ?_)
      · refine JC_region ?_
        refine JL_pd rfl (det_move rfl) ?_
        refine JL_pd rfl (det_add rfl rfl ⟨by omega, by omega⟩) ?_
        refine JL_pd rfl (det_assign rfl) ?_
        refine JL_nil ?_
        refine JE_block ?_
        refine JE_seq ?_
        refine JC_region ?_
        refine JL_pd rfl (det_move rfl) ?_
        refine JL_pd rfl (det_add rfl rfl ⟨by omega, by omega⟩) ?_
        refine JL_pd rfl (det_assign rfl) ?_
        refine JL_nil ?_
        -- stop: end
        rw [if_pos (by rw [hb']; exact h3)] at hs
        refine JE_roundF hK (i + 1) (by omega) (by omega) (stsub_consI rfl (by omega) (stsub_consI rfl (by omega) stsub_nil)) ht_nil
      · refine JC_skip ?_
        refine JE_block ?_
        refine JE_seq ?_
        refine JC_region ?_
        refine JL_pd rfl (det_move rfl) ?_
        refine JL_pd rfl (det_add rfl rfl ⟨by omega, by omega⟩) ?_
        refine JL_pd rfl (det_assign rfl) ?_
        refine JL_nil ?_
        -- stop: end
        rw [if_neg (by rw [hb', h3]; decide)] at hs
        refine JE_roundF hK (i + 1) (by omega) (by omega) (stsub_consI rfl (by omega) (stsub_consI rfl (by omega) stsub_nil)) ht_nil
  · refine JC_exit ?_
    refine JE_seq_exit ?_
    refine JE_then_exit ?_
    refine JE_block_here ?_
    refine JE_seq ?_
    refine JC_seq ?_
    refine JC_region ?_
    refine JL_pd rfl (det_move rfl) ?_
    refine JL_pd rfl (det_assign rfl) ?_
    refine JL_nil ?_
    refine JE_seq ?_
    refine JC_ret ?_
    -- stop: out
    obtain rfl : i = xs.length := by omega
    rw [List.take_length]
    have hc : (gs xs).countP (fun g => !hit T g) = xs.countP fun y => !hit T y.g := by rw [gs, countP_map']
    refine JE_out (.inl rfl) () (results1 Try.results45 (res_tmp rfl)) (by unfold boundL; rw [hc]; congr 1; rw [Int.natCast_add, Int.natCast_mul, Int.toNat_of_nonneg hl.1]) (List.Perm.refl _) (fun _ _ => trivial)
theorem marks_risB {k : Nat} {l : List Gr} {p : List Int} (hV : ∀ g ∈ l, VGr g) (h : ServeFacts k l p) : risB (fun n => inI n 0 30) (marksV k l) = true := by
  obtain ⟨m1, m2, _⟩ := marks_facts hV h
  unfold risB
  rw [decide_eq_true m1, Bool.and_true, List.all_eq_true]
  exact fun t ht => inI_iff.2 (m2 t ht)
set_option maxRecDepth 100000 in
set_option maxHeartbeats 1000000 in
theorem LendBounds_j (x : Hx) (ga : Option Addr) (gc : Nat) (xs : List Gx) (a : Option Addr) (cap : Nat) (T : List Int) : Cv Try.prog 10 [.agg #[I x.h.lanes, .slice x.a x.h.shoes.length x.c], .slice ga xs.length gc, .slice a T.length cap] (KAnd (KHx x) (KAnd (KGs ga gc xs) (KSl a T.length cap encI T))) (.bool true) := by
  refine Cx_of Try.func10 rfl Try.ntmps10 rfl fun w0 M0 => ?_
  refine JC_seq ?_
  refine JC_region ?_
  refine JL_step rfl rfl rfl (jo_box rfl rfl) fun b3 => ?_
  refine JL_pd rfl (det_assign rfl) ?_
  refine JL_nil ?_
  refine JE_seq ?_
  refine JC_seq ?_
  refine JC_seq ?_
  refine JC_region ?_
  refine JL_dt rfl (det_loadKA rfl Try.isAgg24 Try.sizeOf24 rfl rfl) ?_
  refine JL_pd rfl (det_move rfl) ?_
  refine JL_step rfl rfl rfl (jo_callv rfl rfl Try.call16 rfl (Thin_j x ga gc xs)) fun _ => ?_
  refine JL_pd rfl (det_not rfl) ?_
  refine JL_pd rfl (det_move rfl) ?_
  -- stop: guard 4
  refine JL_join1 4 20 (.bool (!thinB x.h (gs xs) || decide ((40 : Int) < (T.length : Int)))) (fun hj => ?_) ?_
  · refine JL_split (d0 := 16) rfl (fun q1 => ?_) (fun q1 => ?_)
    · refine JL_skip rfl rfl q1 rfl ?_
      refine JL_skip rfl rfl q1 rfl ?_
      refine JL_skip rfl rfl q1 rfl ?_
      refine JL_pd rfl (det_pick_t rfl q1 rfl) ?_
      exact hj (by kernel_rfl) (stsub_consB rfl (by clear hj; first | rfl | (simp only [q1, Bool.and_true, Bool.true_and, Bool.false_and, Bool.and_false, Bool.or_true, Bool.true_or, Bool.or_false, Bool.false_or, Bool.not_true, Bool.not_false]; done) | (simp [q1]; done) | (simp at q1; done) | (simp [q1] <;> omega) | (exfalso; simp at q1; omega)) stsub_nil)
    · refine JL_guard rfl rfl q1 ?_
      refine JL_pd rfl (det_move rfl) ?_
      refine JL_guard rfl rfl q1 ?_
      refine JL_pd rfl (det_len rfl Try.runUnderlying22) ?_
      refine JL_guard rfl rfl q1 ?_
      refine JL_pd rfl (det_gtr rfl rfl) ?_
      refine JL_pd rfl (det_pick_f rfl q1 rfl) ?_
      exact hj (by kernel_rfl) (stsub_consB rfl (by clear hj; first | rfl | (simp only [q1, Bool.and_true, Bool.true_and, Bool.false_and, Bool.and_false, Bool.or_true, Bool.true_or, Bool.or_false, Bool.false_or, Bool.not_true, Bool.not_false]; done) | (simp [q1]; done) | (simp at q1; done) | (simp [q1] <;> omega) | (exfalso; simp at q1; omega)) stsub_nil)
  refine JL_nil ?_
  refine JE_seq ?_
  -- stop: cond
  refine JC_cond rfl (fun h1 => ?_) (fun h1 => ?_)
  · refine JC_seq ?_
    refine JC_region ?_
    refine JL_step rfl rfl rfl (jo_callv rfl rfl Try.call17 rfl (awake_j)) fun _ => ?_
    refine JL_pd rfl (det_assign rfl) ?_
    refine JL_nil ?_
    refine JE_seq ?_
    refine JC_ret ?_
    refine JE_seq_ret ?_
    -- stop: out
    refine JE_out (.inl rfl) () (results1 Try.results10 (res_tmp rfl)) rfl (List.Perm.refl _) (fun _ _ => trivial)
  · simp only [Bool.or_eq_false_iff, Bool.not_eq_false', decide_eq_false_iff_not] at h1
    obtain ⟨h1, h2⟩ := h1
    obtain ⟨t1, t2, t3⟩ := thin_lens h1
    have hgl : (gs xs).length = xs.length := List.length_map _
    rw [hgl] at t2
    have hTl : T.length ≤ 40 := by omega
    have hft : ∀ y ∈ xs, y.g.feet.length ≤ 1000 := fun y hy => by have := t3 y.g (List.mem_map.2 ⟨y, hy, rfl⟩); omega
    by_cases c1 : fault x.h (gs xs) = 0
    · have V := vld_of c1
      have hl0 := V.hs.l0
      have hl1 := V.hs.l1
      have hn8 : xs.length ≤ 8 := by have := V.n; rwa [hgl] at this
      obtain ⟨k, hk⟩ : ∃ k : Nat, x.h.lanes.toNat = k := ⟨_, rfl⟩
      have hkk : x.h.lanes = (k : Int) := by omega
      obtain ⟨p, hF⟩ := serve_exists k (gs xs) V.gr
      obtain ⟨m1, m2, m3⟩ := marks_facts V.gr hF
      have hri := marks_risB V.gr hF
      have hmk := Marks_c x
      rw [← hkk] at m1 m2 m3 hri
      have hbnd := fun (q : QH) (g : QG xs) (c : QH) => Bound_c x q xs g T c.1 c.2 c1 (by omega)
      have hris := fun (a : Option Addr) (c : Nat) => Rising_j a c (marksV x.h.lanes (gs xs)) 30
      rw [hri] at hris
      have hml : (marksV x.h.lanes (gs xs)).length ≤ 31 := by
        have hnd : (marksV x.h.lanes (gs xs)).Nodup := m1.imp fun h => by omega
        have := nodup_len hnd (l' := (List.range 31).map fun n : Nat => (n : Int)) fun t ht => by
          have := m2 t ht
          exact List.mem_map.2 ⟨t.toNat, List.mem_range.2 (by omega), by omega⟩
        simpa using this
      have hrb := fun (a : Option Addr) (c : Nat) => RBound_j x ga gc xs a c (marksV x.h.lanes (gs xs)) ⟨hl0, hl1⟩ hn8 (by omega)
      rw [hk, m3] at hrb
      have hmo := (Most_j x ga gc xs k hkk (by omega) V.gr (by omega) xs.length [] none 0 (by simp)).mono (pre' := KSl ga xs.length gc encG xs) (fun w hw => ⟨hw, KSl_none w⟩) (fun _ _ h => h)
      have hme : mostV k (gs xs) xs.length [] = (served p : Nat) := by rw [← hgl]; exact most_eq hF
      rw [hme] at hmo
      have hrisT := Rising_j a cap T 30
      have hrbT := RBound_j x ga gc xs a cap T ⟨hl0, hl1⟩ hn8 (by omega)
      by_cases c2 : risB (fun n => inI n 0 30) T = true
      · have hbe : boundE x (gs xs) T = .tuple #[I ((boundL x.h.lanes.toNat (gs xs) T : Nat) : Int), I 0] := if_pos c2
        simp only [hbe] at hbnd
        rw [c2] at hrisT
        refine JC_skip ?_
        refine JE_seq ?_
        refine JC_seq ?_
        refine JC_region ?_
        refine JL_dt rfl (det_loadKA rfl Try.isAgg24 Try.sizeOf24 rfl rfl) ?_
        refine JL_step rfl rfl rfl (jo_call rfl rfl Try.call19 rfl (lHouse_j x (by omega))) fun x24 => ?_
        refine JL_pd rfl (det_move rfl) ?_
        refine JL_step rfl rfl rfl (jo_call rfl rfl Try.call20 rfl (lGroups_j ga gc xs (by omega) hft)) fun x26 => ?_
        refine JL_pd rfl (det_move rfl) ?_
        refine JL_step rfl rfl rfl (jo_call rfl rfl Try.call23 rfl (lList_j T a cap (by omega))) fun x28 => ?_
        refine JL_step rfl rfl rfl (jo_callv rfl rfl Try.call42 rfl (hbnd x24 x26 x28)) fun _ => ?_
        refine JL_pd rfl (det_move rfl) ?_
        refine JL_pd rfl (det_extract rfl rfl) ?_
        refine JL_pd rfl (det_extract rfl rfl) ?_
        refine JL_pd rfl (det_assign rfl) ?_
        refine JL_pd rfl (det_assign rfl) ?_
        refine JL_nil ?_
        refine JE_seq ?_
        refine JC_seq ?_
        refine JC_region ?_
        refine JL_dt rfl (det_loadKA rfl Try.isAgg24 Try.sizeOf24 rfl rfl) ?_
        refine JL_step rfl rfl rfl (jo_call rfl rfl Try.call19 rfl (lHouse_j x (by omega))) fun x34 => ?_
        refine JL_pd rfl (det_move rfl) ?_
        refine JL_step rfl rfl rfl (jo_call rfl rfl Try.call20 rfl (lGroups_j ga gc xs (by omega) hft)) fun x36 => ?_
        refine JL_step rfl rfl rfl (jo_call rfl rfl Try.call43 rfl (Marks_c x x34 xs x36 c1)) fun x37 => ?_
        refine JL_pd rfl (det_move rfl) ?_
        refine JL_pd rfl (det_extract rfl rfl) ?_
        refine JL_pd rfl (det_extract rfl rfl) ?_
        refine JL_pd rfl (det_assign rfl) ?_
        refine JL_pd rfl (det_assign rfl) ?_
        refine JL_nil ?_
        refine JE_seq ?_
        refine JC_seq ?_
        refine JC_region ?_
        refine JL_dt rfl (det_loadKA rfl Try.isAgg24 Try.sizeOf24 rfl rfl) ?_
        refine JL_pd rfl (det_move rfl) ?_
        refine JL_step rfl rfl rfl (jo_callv rfl rfl Try.call24 rfl (fault_jl x ga gc xs)) fun _ => ?_
        refine JL_pd rfl (det_assign rfl) ?_
        refine JL_nil ?_
        refine JE_seq ?_
        refine JC_seq ?_
        refine JC_seq ?_
        refine JC_region ?_
        refine JL_pd rfl (det_move rfl) ?_
        refine JL_pd rfl (det_neq rfl rfl) ?_
        refine JL_nil ?_
        refine JE_seq ?_
        -- stop: cond
        refine JC_ifn rfl (fun k1 => ?_) (fun k1 => ?_)
        · exact absurd c1 k1
        refine JC_skip ?_
        refine JE_seq ?_
        refine JC_seq ?_
        refine JC_seq ?_
        refine JC_draw [] (by kernel_rfl) ?_
        refine JA_pd (i := 0) rfl (by kernel_rfl) rfl rfl (det_move rfl) ?_
        refine JA_pd (i := 1) rfl (by kernel_rfl) rfl rfl (det_neq rfl rfl) ?_
        refine JA_pd (i := 2) rfl (by kernel_rfl) rfl rfl (det_move rfl) ?_
        -- stop: guard 2
        refine JA_is (d0 := 67) false rfl (by rfl) (fun g1 => ?_)
        refine JA_gpd (i := 3) rfl (by kernel_rfl) rfl rfl rfl rfl g1 (det_move rfl) ?_
        refine JA_gone (i := 4) (by kernel_rfl) rfl rfl rfl g1 rfl (jo_callv rfl rfl Try.call44 rfl (hris _ _)) (fun _ => ⟨hsub_refl, fun _ h => h⟩) fun _ => ?_
        refine JA_gpd (i := 5) rfl (by kernel_rfl) rfl rfl rfl rfl g1 (det_not rfl) ?_
        refine JA_pd (i := 6) rfl (by kernel_rfl) rfl rfl (det_pick_f rfl g1 rfl) ?_
        refine JA_pd (i := 7) rfl (by kernel_rfl) rfl rfl (det_move rfl) ?_
        -- stop: guard 7
        refine JA_is (d0 := 72) false rfl (by rfl) (fun g2 => ?_)
        refine JA_gpd (i := 8) rfl (by kernel_rfl) rfl rfl rfl rfl g2 (det_move rfl) ?_
        refine JA_gpd (i := 9) rfl (by kernel_rfl) rfl rfl rfl rfl g2 (det_len rfl Try.runUnderlying25) ?_
        refine JA_gpd (i := 10) rfl (by kernel_rfl) rfl rfl rfl rfl g2 (det_leq rfl rfl) ?_
        refine JA_gpd (i := 11) rfl (by kernel_rfl) rfl rfl rfl rfl g2 (det_move rfl) ?_
        -- stop: guard 11
        by_cases c3 : xs.length ≤ 5
        · by_cases c4 : x.h.lanes ≤ 3
          · refine JA_is (d0 := 76) true rfl (by exact decide_eq_true (by omega)) (fun g3 => ?_)
            refine JA_gpd (i := 12) rfl (by kernel_rfl) rfl rfl rfl rfl g3 (det_fieldAddr rfl fo_24_0) ?_
            refine JA_gdt (i := 13) rfl (by kernel_rfl) (by kernel_rfl) rfl rfl rfl rfl g3 (det_loadK rfl Try.isAgg3 rfl) ?_
            refine JA_gpd (i := 14) rfl (by kernel_rfl) rfl rfl rfl rfl g3 (det_leq rfl rfl) ?_
            refine JA_gpd (i := 15) rfl (by kernel_rfl) rfl rfl rfl rfl g2 (det_pick_t rfl g3 rfl) ?_
            refine JA_gpd (i := 16) rfl (by kernel_rfl) rfl rfl rfl rfl g2 (det_move rfl) ?_
            -- stop: guard 16
            refine JA_is (d0 := 81) true rfl (by exact decide_eq_true c4) (fun g4 => ?_)
            refine JA_gdt (i := 17) rfl (by kernel_rfl) (by kernel_rfl) rfl rfl rfl rfl g4 (det_loadKA rfl Try.isAgg24 Try.sizeOf24 rfl rfl) ?_
            refine JA_gpd (i := 18) rfl (by kernel_rfl) rfl rfl rfl rfl g4 (det_move rfl) ?_
            refine JA_gpd (i := 19) rfl (by kernel_rfl) rfl rfl rfl rfl g4 (det_move rfl) ?_
            refine JA_gdt (i := 21) rfl (by kernel_rfl) (by kernel_rfl) rfl rfl rfl rfl g4 (det_loadKA rfl Try.isAgg24 Try.sizeOf24 rfl rfl) ?_
            refine JA_gpd (i := 22) rfl (by kernel_rfl) rfl rfl rfl rfl g4 (det_move rfl) ?_
            refine JA_gone (i := 20) (by kernel_rfl) rfl rfl rfl g4 rfl (jo_callv rfl rfl Try.call45 rfl (hrb _ _)) (fun _ => ⟨hsub_refl, fun _ h => h⟩) fun _ => ?_
            refine JA_gone (i := 23) (by kernel_rfl) rfl rfl rfl g4 rfl (jo_callv rfl rfl Try.call29 rfl (hmo)) (fun _ => ⟨hsub_refl, fun _ h => h⟩) fun _ => ?_
            refine JA_gpd (i := 24) rfl (by kernel_rfl) rfl rfl rfl rfl g4 (det_neq rfl rfl) ?_
            refine JA_gpd (i := 25) rfl (by kernel_rfl) rfl rfl rfl rfl g2 (det_pick_t rfl g4 rfl) ?_
            refine JA_pd (i := 26) rfl (by kernel_rfl) rfl rfl (det_pick_f rfl g2 rfl) ?_
            refine JA_done (by kernel_rfl) ?_
            refine JE_seq ?_
            -- stop: cond
            refine JC_cond rfl (fun k2 => ?_) (fun k2 => ?_)
            · exact absurd k2 (by simp)
            refine JC_skip ?_
            refine JE_seq ?_
            refine JC_seq ?_
            refine JC_seq ?_
            refine JC_region ?_
            refine JL_pd rfl (det_move rfl) ?_
            -- stop: op  1 t93 := (call (Call (value f44) (t92 30) (22 3)))   <0>   129
            refine JL_step rfl rfl rfl (jo_callv rfl rfl Try.call44 rfl (hrisT)) fun _ => ?_
            refine JL_pd rfl (det_not rfl) ?_
            refine JL_nil ?_
            refine JE_seq ?_
            -- stop: cond
            refine JC_cond rfl (fun k3 => ?_) (fun k3 => ?_)
            · cases k3
            refine JC_skip ?_
            refine JE_seq ?_
            refine JC_seq ?_
            refine JC_region ?_
            refine JL_pd rfl (det_move rfl) ?_
            refine JL_pd rfl (det_eql rfl rfl) ?_
            refine JL_pd rfl (det_move rfl) ?_
            -- stop: guard 2
            refine JL_is (d0 := 106) true rfl (by rfl) (fun g5 => ?_)
            refine JL_guard rfl rfl g5 ?_
            refine JL_pd rfl (det_move rfl) ?_
            refine JL_guard rfl rfl g5 ?_
            refine JL_dt rfl (det_loadKA rfl Try.isAgg24 Try.sizeOf24 rfl rfl) ?_
            refine JL_guard rfl rfl g5 ?_
            refine JL_pd rfl (det_move rfl) ?_
            refine JL_guard rfl rfl g5 ?_
            refine JL_pd rfl (det_move rfl) ?_
            refine JL_guard rfl rfl g5 ?_
            -- stop: op  7 t111 := (call (Call (value f45) (t108 t109 t110) (24 25 22)))   <4 5 6 2 2>   132
            refine JL_step rfl rfl rfl (jo_callv rfl rfl Try.call45 rfl (hrbT)) fun _ => ?_
            refine JL_guard rfl rfl g5 ?_
            refine JL_pd rfl (det_eql rfl rfl) ?_
            refine JL_pd rfl (det_pick_t rfl g5 rfl) ?_
            refine JL_pd rfl (det_move rfl) ?_
            -- stop: guard 10
            refine JL_is (d0 := 114) true rfl (by simp) (fun h2 => ?_)
            refine JL_guard rfl rfl h2 ?_
            refine JL_step rfl rfl rfl (jo_callv rfl rfl Try.call17 rfl (awake_j)) fun _ => ?_
            refine JL_pd rfl (det_pick_t rfl h2 rfl) ?_
            refine JL_pd rfl (det_assign rfl) ?_
            refine JL_nil ?_
            refine JE_seq ?_
            refine JC_ret ?_
            refine JE_out (.inl rfl) () (results1 Try.results10 (res_tmp rfl)) ?_ (List.Perm.refl _) (fun _ _ => trivial)
            rfl
          · skip
            refine JA_is (d0 := 76) true rfl (by exact decide_eq_true (by omega)) (fun g3 => ?_)
            refine JA_gpd (i := 12) rfl (by kernel_rfl) rfl rfl rfl rfl g3 (det_fieldAddr rfl fo_24_0) ?_
            refine JA_gdt (i := 13) rfl (by kernel_rfl) (by kernel_rfl) rfl rfl rfl rfl g3 (det_loadK rfl Try.isAgg3 rfl) ?_
            refine JA_gpd (i := 14) rfl (by kernel_rfl) rfl rfl rfl rfl g3 (det_leq rfl rfl) ?_
            refine JA_gpd (i := 15) rfl (by kernel_rfl) rfl rfl rfl rfl g2 (det_pick_t rfl g3 rfl) ?_
            refine JA_gpd (i := 16) rfl (by kernel_rfl) rfl rfl rfl rfl g2 (det_move rfl) ?_
            -- stop: guard 16
            refine JA_is (d0 := 81) false rfl (by exact decide_eq_false c4) (fun g4 => ?_)
            refine JA_skip (i := 17) rfl (by kernel_rfl) rfl rfl rfl rfl g4 ?_
            refine JA_skip (i := 18) rfl (by kernel_rfl) rfl rfl rfl rfl g4 ?_
            refine JA_skip (i := 19) rfl (by kernel_rfl) rfl rfl rfl rfl g4 ?_
            refine JA_skip (i := 20) rfl (by kernel_rfl) rfl rfl rfl rfl g4 ?_
            refine JA_skip (i := 21) rfl (by kernel_rfl) rfl rfl rfl rfl g4 ?_
            refine JA_skip (i := 22) rfl (by kernel_rfl) rfl rfl rfl rfl g4 ?_
            refine JA_skip (i := 23) rfl (by kernel_rfl) rfl rfl rfl rfl g4 ?_
            refine JA_skip (i := 24) rfl (by kernel_rfl) rfl rfl rfl rfl g4 ?_
            refine JA_gpd (i := 25) rfl (by kernel_rfl) rfl rfl rfl rfl g2 (det_pick_f rfl g4 rfl) ?_
            refine JA_pd (i := 26) rfl (by kernel_rfl) rfl rfl (det_pick_f rfl g2 rfl) ?_
            refine JA_done (by kernel_rfl) ?_
            refine JE_seq ?_
            refine JC_condF rfl rfl ?_
            refine JC_skip ?_
            refine JE_seq ?_
            refine JC_seq ?_
            refine JC_seq ?_
            refine JC_region ?_
            refine JL_pd rfl (det_move rfl) ?_
            -- stop: op  1 t93 := (call (Call (value f44) (t92 30) (22 3)))   <0>   129
            refine JL_step rfl rfl rfl (jo_callv rfl rfl Try.call44 rfl (hrisT)) fun _ => ?_
            refine JL_pd rfl (det_not rfl) ?_
            refine JL_nil ?_
            refine JE_seq ?_
            -- stop: cond
            refine JC_cond rfl (fun k3 => ?_) (fun k3 => ?_)
            · cases k3
            refine JC_skip ?_
            refine JE_seq ?_
            refine JC_seq ?_
            refine JC_region ?_
            refine JL_pd rfl (det_move rfl) ?_
            refine JL_pd rfl (det_eql rfl rfl) ?_
            refine JL_pd rfl (det_move rfl) ?_
            -- stop: guard 2
            refine JL_is (d0 := 106) true rfl (by rfl) (fun g5 => ?_)
            refine JL_guard rfl rfl g5 ?_
            refine JL_pd rfl (det_move rfl) ?_
            refine JL_guard rfl rfl g5 ?_
            refine JL_dt rfl (det_loadKA rfl Try.isAgg24 Try.sizeOf24 rfl rfl) ?_
            refine JL_guard rfl rfl g5 ?_
            refine JL_pd rfl (det_move rfl) ?_
            refine JL_guard rfl rfl g5 ?_
            refine JL_pd rfl (det_move rfl) ?_
            refine JL_guard rfl rfl g5 ?_
            -- stop: op  7 t111 := (call (Call (value f45) (t108 t109 t110) (24 25 22)))   <4 5 6 2 2>   132
            refine JL_step rfl rfl rfl (jo_callv rfl rfl Try.call45 rfl (hrbT)) fun _ => ?_
            refine JL_guard rfl rfl g5 ?_
            refine JL_pd rfl (det_eql rfl rfl) ?_
            refine JL_pd rfl (det_pick_t rfl g5 rfl) ?_
            refine JL_pd rfl (det_move rfl) ?_
            -- stop: guard 10
            refine JL_is (d0 := 114) true rfl (by simp) (fun h3 => ?_)
            refine JL_guard rfl rfl h3 ?_
            refine JL_step rfl rfl rfl (jo_callv rfl rfl Try.call17 rfl (awake_j)) fun _ => ?_
            refine JL_pd rfl (det_pick_t rfl h3 rfl) ?_
            refine JL_pd rfl (det_assign rfl) ?_
            refine JL_nil ?_
            refine JE_seq ?_
            refine JC_ret ?_
            refine JE_out (.inl rfl) () (results1 Try.results10 (res_tmp rfl)) ?_ (List.Perm.refl _) (fun _ _ => trivial)
            rfl
        · skip
          refine JA_is (d0 := 76) false rfl (by exact decide_eq_false (by omega)) (fun g3 => ?_)
          refine JA_skip (i := 12) rfl (by kernel_rfl) rfl rfl rfl rfl g3 ?_
          refine JA_skip (i := 13) rfl (by kernel_rfl) rfl rfl rfl rfl g3 ?_
          refine JA_skip (i := 14) rfl (by kernel_rfl) rfl rfl rfl rfl g3 ?_
          refine JA_gpd (i := 15) rfl (by kernel_rfl) rfl rfl rfl rfl g2 (det_pick_f rfl g3 rfl) ?_
          refine JA_gpd (i := 16) rfl (by kernel_rfl) rfl rfl rfl rfl g2 (det_move rfl) ?_
          refine JA_skip (i := 17) rfl (by kernel_rfl) rfl rfl rfl rfl rfl ?_
          refine JA_skip (i := 18) rfl (by kernel_rfl) rfl rfl rfl rfl rfl ?_
          refine JA_skip (i := 19) rfl (by kernel_rfl) rfl rfl rfl rfl rfl ?_
          refine JA_skip (i := 20) rfl (by kernel_rfl) rfl rfl rfl rfl rfl ?_
          refine JA_skip (i := 21) rfl (by kernel_rfl) rfl rfl rfl rfl rfl ?_
          refine JA_skip (i := 22) rfl (by kernel_rfl) rfl rfl rfl rfl rfl ?_
          refine JA_skip (i := 23) rfl (by kernel_rfl) rfl rfl rfl rfl rfl ?_
          refine JA_skip (i := 24) rfl (by kernel_rfl) rfl rfl rfl rfl rfl ?_
          refine JA_gpd (i := 25) rfl (by kernel_rfl) rfl rfl rfl rfl g2 (det_pick_f rfl rfl rfl) ?_
          refine JA_pd (i := 26) rfl (by kernel_rfl) rfl rfl (det_pick_f rfl g2 rfl) ?_
          refine JA_done (by kernel_rfl) ?_
          refine JE_seq ?_
          refine JC_condF rfl rfl ?_
          refine JC_skip ?_
          refine JE_seq ?_
          refine JC_seq ?_
          refine JC_seq ?_
          refine JC_region ?_
          refine JL_pd rfl (det_move rfl) ?_
          -- stop: op  1 t93 := (call (Call (value f44) (t92 30) (22 3)))   <0>   129
          refine JL_step rfl rfl rfl (jo_callv rfl rfl Try.call44 rfl (hrisT)) fun _ => ?_
          refine JL_pd rfl (det_not rfl) ?_
          refine JL_nil ?_
          refine JE_seq ?_
          -- stop: cond
          refine JC_cond rfl (fun k3 => ?_) (fun k3 => ?_)
          · cases k3
          refine JC_skip ?_
          refine JE_seq ?_
          refine JC_seq ?_
          refine JC_region ?_
          refine JL_pd rfl (det_move rfl) ?_
          refine JL_pd rfl (det_eql rfl rfl) ?_
          refine JL_pd rfl (det_move rfl) ?_
          -- stop: guard 2
          refine JL_is (d0 := 106) true rfl (by rfl) (fun g5 => ?_)
          refine JL_guard rfl rfl g5 ?_
          refine JL_pd rfl (det_move rfl) ?_
          refine JL_guard rfl rfl g5 ?_
          refine JL_dt rfl (det_loadKA rfl Try.isAgg24 Try.sizeOf24 rfl rfl) ?_
          refine JL_guard rfl rfl g5 ?_
          refine JL_pd rfl (det_move rfl) ?_
          refine JL_guard rfl rfl g5 ?_
          refine JL_pd rfl (det_move rfl) ?_
          refine JL_guard rfl rfl g5 ?_
          -- stop: op  7 t111 := (call (Call (value f45) (t108 t109 t110) (24 25 22)))   <4 5 6 2 2>   132
          refine JL_step rfl rfl rfl (jo_callv rfl rfl Try.call45 rfl (hrbT)) fun _ => ?_
          refine JL_guard rfl rfl g5 ?_
          refine JL_pd rfl (det_eql rfl rfl) ?_
          refine JL_pd rfl (det_pick_t rfl g5 rfl) ?_
          refine JL_pd rfl (det_move rfl) ?_
          -- stop: guard 10
          refine JL_is (d0 := 114) true rfl (by simp) (fun h4 => ?_)
          refine JL_guard rfl rfl h4 ?_
          refine JL_step rfl rfl rfl (jo_callv rfl rfl Try.call17 rfl (awake_j)) fun _ => ?_
          refine JL_pd rfl (det_pick_t rfl h4 rfl) ?_
          refine JL_pd rfl (det_assign rfl) ?_
          refine JL_nil ?_
          refine JE_seq ?_
          refine JC_ret ?_
          refine JE_out (.inl rfl) () (results1 Try.results10 (res_tmp rfl)) ?_ (List.Perm.refl _) (fun _ _ => trivial)
          rfl
      · have hbe : boundE x (gs xs) T = .tuple #[I 0, I 2] := if_neg c2
        simp only [hbe] at hbnd
        rw [show risB (fun n => inI n 0 30) T = false by simpa using c2] at hrisT
        refine JC_skip ?_
        refine JE_seq ?_
        refine JC_seq ?_
        refine JC_region ?_
        refine JL_dt rfl (det_loadKA rfl Try.isAgg24 Try.sizeOf24 rfl rfl) ?_
        refine JL_step rfl rfl rfl (jo_call rfl rfl Try.call19 rfl (lHouse_j x (by omega))) fun x24 => ?_
        refine JL_pd rfl (det_move rfl) ?_
        refine JL_step rfl rfl rfl (jo_call rfl rfl Try.call20 rfl (lGroups_j ga gc xs (by omega) hft)) fun x26 => ?_
        refine JL_pd rfl (det_move rfl) ?_
        refine JL_step rfl rfl rfl (jo_call rfl rfl Try.call23 rfl (lList_j T a cap (by omega))) fun x28 => ?_
        refine JL_step rfl rfl rfl (jo_callv rfl rfl Try.call42 rfl (hbnd x24 x26 x28)) fun _ => ?_
        refine JL_pd rfl (det_move rfl) ?_
        refine JL_pd rfl (det_extract rfl rfl) ?_
        refine JL_pd rfl (det_extract rfl rfl) ?_
        refine JL_pd rfl (det_assign rfl) ?_
        refine JL_pd rfl (det_assign rfl) ?_
        refine JL_nil ?_
        refine JE_seq ?_
        refine JC_seq ?_
        refine JC_region ?_
        refine JL_dt rfl (det_loadKA rfl Try.isAgg24 Try.sizeOf24 rfl rfl) ?_
        refine JL_step rfl rfl rfl (jo_call rfl rfl Try.call19 rfl (lHouse_j x (by omega))) fun x34 => ?_
        refine JL_pd rfl (det_move rfl) ?_
        refine JL_step rfl rfl rfl (jo_call rfl rfl Try.call20 rfl (lGroups_j ga gc xs (by omega) hft)) fun x36 => ?_
        refine JL_step rfl rfl rfl (jo_call rfl rfl Try.call43 rfl (Marks_c x x34 xs x36 c1)) fun x37 => ?_
        refine JL_pd rfl (det_move rfl) ?_
        refine JL_pd rfl (det_extract rfl rfl) ?_
        refine JL_pd rfl (det_extract rfl rfl) ?_
        refine JL_pd rfl (det_assign rfl) ?_
        refine JL_pd rfl (det_assign rfl) ?_
        refine JL_nil ?_
        refine JE_seq ?_
        refine JC_seq ?_
        refine JC_region ?_
        refine JL_dt rfl (det_loadKA rfl Try.isAgg24 Try.sizeOf24 rfl rfl) ?_
        refine JL_pd rfl (det_move rfl) ?_
        refine JL_step rfl rfl rfl (jo_callv rfl rfl Try.call24 rfl (fault_jl x ga gc xs)) fun _ => ?_
        refine JL_pd rfl (det_assign rfl) ?_
        refine JL_nil ?_
        refine JE_seq ?_
        refine JC_seq ?_
        refine JC_seq ?_
        refine JC_region ?_
        refine JL_pd rfl (det_move rfl) ?_
        refine JL_pd rfl (det_neq rfl rfl) ?_
        refine JL_nil ?_
        refine JE_seq ?_
        -- stop: cond
        refine JC_ifn rfl (fun k1 => ?_) (fun k1 => ?_)
        · exact absurd c1 k1
        refine JC_skip ?_
        refine JE_seq ?_
        refine JC_seq ?_
        refine JC_seq ?_
        refine JC_draw [] (by kernel_rfl) ?_
        refine JA_pd (i := 0) rfl (by kernel_rfl) rfl rfl (det_move rfl) ?_
        refine JA_pd (i := 1) rfl (by kernel_rfl) rfl rfl (det_neq rfl rfl) ?_
        refine JA_pd (i := 2) rfl (by kernel_rfl) rfl rfl (det_move rfl) ?_
        -- stop: guard 2
        refine JA_is (d0 := 67) false rfl (by rfl) (fun g1 => ?_)
        refine JA_gpd (i := 3) rfl (by kernel_rfl) rfl rfl rfl rfl g1 (det_move rfl) ?_
        refine JA_gone (i := 4) (by kernel_rfl) rfl rfl rfl g1 rfl (jo_callv rfl rfl Try.call44 rfl (hris _ _)) (fun _ => ⟨hsub_refl, fun _ h => h⟩) fun _ => ?_
        refine JA_gpd (i := 5) rfl (by kernel_rfl) rfl rfl rfl rfl g1 (det_not rfl) ?_
        refine JA_pd (i := 6) rfl (by kernel_rfl) rfl rfl (det_pick_f rfl g1 rfl) ?_
        refine JA_pd (i := 7) rfl (by kernel_rfl) rfl rfl (det_move rfl) ?_
        -- stop: guard 7
        refine JA_is (d0 := 72) false rfl (by rfl) (fun g2 => ?_)
        refine JA_gpd (i := 8) rfl (by kernel_rfl) rfl rfl rfl rfl g2 (det_move rfl) ?_
        refine JA_gpd (i := 9) rfl (by kernel_rfl) rfl rfl rfl rfl g2 (det_len rfl Try.runUnderlying25) ?_
        refine JA_gpd (i := 10) rfl (by kernel_rfl) rfl rfl rfl rfl g2 (det_leq rfl rfl) ?_
        refine JA_gpd (i := 11) rfl (by kernel_rfl) rfl rfl rfl rfl g2 (det_move rfl) ?_
        -- stop: guard 11
        by_cases c3 : xs.length ≤ 5
        · by_cases c4 : x.h.lanes ≤ 3
          · refine JA_is (d0 := 76) true rfl (by exact decide_eq_true (by omega)) (fun g3 => ?_)
            refine JA_gpd (i := 12) rfl (by kernel_rfl) rfl rfl rfl rfl g3 (det_fieldAddr rfl fo_24_0) ?_
            refine JA_gdt (i := 13) rfl (by kernel_rfl) (by kernel_rfl) rfl rfl rfl rfl g3 (det_loadK rfl Try.isAgg3 rfl) ?_
            refine JA_gpd (i := 14) rfl (by kernel_rfl) rfl rfl rfl rfl g3 (det_leq rfl rfl) ?_
            refine JA_gpd (i := 15) rfl (by kernel_rfl) rfl rfl rfl rfl g2 (det_pick_t rfl g3 rfl) ?_
            refine JA_gpd (i := 16) rfl (by kernel_rfl) rfl rfl rfl rfl g2 (det_move rfl) ?_
            -- stop: guard 16
            refine JA_is (d0 := 81) true rfl (by exact decide_eq_true c4) (fun g4 => ?_)
            refine JA_gdt (i := 17) rfl (by kernel_rfl) (by kernel_rfl) rfl rfl rfl rfl g4 (det_loadKA rfl Try.isAgg24 Try.sizeOf24 rfl rfl) ?_
            refine JA_gpd (i := 18) rfl (by kernel_rfl) rfl rfl rfl rfl g4 (det_move rfl) ?_
            refine JA_gpd (i := 19) rfl (by kernel_rfl) rfl rfl rfl rfl g4 (det_move rfl) ?_
            refine JA_gdt (i := 21) rfl (by kernel_rfl) (by kernel_rfl) rfl rfl rfl rfl g4 (det_loadKA rfl Try.isAgg24 Try.sizeOf24 rfl rfl) ?_
            refine JA_gpd (i := 22) rfl (by kernel_rfl) rfl rfl rfl rfl g4 (det_move rfl) ?_
            refine JA_gone (i := 20) (by kernel_rfl) rfl rfl rfl g4 rfl (jo_callv rfl rfl Try.call45 rfl (hrb _ _)) (fun _ => ⟨hsub_refl, fun _ h => h⟩) fun _ => ?_
            refine JA_gone (i := 23) (by kernel_rfl) rfl rfl rfl g4 rfl (jo_callv rfl rfl Try.call29 rfl (hmo)) (fun _ => ⟨hsub_refl, fun _ h => h⟩) fun _ => ?_
            refine JA_gpd (i := 24) rfl (by kernel_rfl) rfl rfl rfl rfl g4 (det_neq rfl rfl) ?_
            refine JA_gpd (i := 25) rfl (by kernel_rfl) rfl rfl rfl rfl g2 (det_pick_t rfl g4 rfl) ?_
            refine JA_pd (i := 26) rfl (by kernel_rfl) rfl rfl (det_pick_f rfl g2 rfl) ?_
            refine JA_done (by kernel_rfl) ?_
            refine JE_seq ?_
            -- stop: cond
            refine JC_cond rfl (fun k2 => ?_) (fun k2 => ?_)
            · exact absurd k2 (by simp)
            refine JC_skip ?_
            refine JE_seq ?_
            refine JC_seq ?_
            refine JC_seq ?_
            refine JC_region ?_
            refine JL_pd rfl (det_move rfl) ?_
            -- stop: op  1 t93 := (call (Call (value f44) (t92 30) (22 3)))   <0>   129
            refine JL_step rfl rfl rfl (jo_callv rfl rfl Try.call44 rfl (hrisT)) fun _ => ?_
            refine JL_pd rfl (det_not rfl) ?_
            refine JL_nil ?_
            refine JE_seq ?_
            -- stop: cond
            refine JC_cond rfl (fun k3 => ?_) (fun k3 => ?_)
            · refine JC_seq ?_
              refine JC_region ?_
              refine JL_pd rfl (det_move rfl) ?_
              refine JL_pd rfl (det_eql rfl rfl) ?_
              refine JL_pd rfl (det_move rfl) ?_
              -- stop: guard 2
              refine JL_is (d0 := 97) true rfl (by simp) (fun h5 => ?_)
              refine JL_guard rfl rfl h5 ?_
              refine JL_pd rfl (det_move rfl) ?_
              refine JL_guard rfl rfl h5 ?_
              refine JL_pd rfl (det_eql rfl rfl) ?_
              refine JL_pd rfl (det_pick_t rfl h5 rfl) ?_
              refine JL_pd rfl (det_move rfl) ?_
              refine JL_is (d0 := 101) true rfl (by simp) (fun h6 => ?_)
              refine JL_guard rfl rfl h6 ?_
              refine JL_step rfl rfl rfl (jo_callv rfl rfl Try.call17 rfl (awake_j)) fun _ => ?_
              refine JL_pd rfl (det_pick_t rfl h6 rfl) ?_
              refine JL_pd rfl (det_assign rfl) ?_
              refine JL_nil ?_
              refine JE_seq ?_
              refine JC_ret ?_
              refine JE_seq_ret ?_
              refine JE_out (.inl rfl) () (results1 Try.results10 (res_tmp rfl)) ?_ (List.Perm.refl _) (fun _ _ => trivial)
              rfl
            · cases k3
          · skip
            refine JA_is (d0 := 76) true rfl (by exact decide_eq_true (by omega)) (fun g3 => ?_)
            refine JA_gpd (i := 12) rfl (by kernel_rfl) rfl rfl rfl rfl g3 (det_fieldAddr rfl fo_24_0) ?_
            refine JA_gdt (i := 13) rfl (by kernel_rfl) (by kernel_rfl) rfl rfl rfl rfl g3 (det_loadK rfl Try.isAgg3 rfl) ?_
            refine JA_gpd (i := 14) rfl (by kernel_rfl) rfl rfl rfl rfl g3 (det_leq rfl rfl) ?_
            refine JA_gpd (i := 15) rfl (by kernel_rfl) rfl rfl rfl rfl g2 (det_pick_t rfl g3 rfl) ?_
            refine JA_gpd (i := 16) rfl (by kernel_rfl) rfl rfl rfl rfl g2 (det_move rfl) ?_
            -- stop: guard 16
            refine JA_is (d0 := 81) false rfl (by exact decide_eq_false c4) (fun g4 => ?_)
            refine JA_skip (i := 17) rfl (by kernel_rfl) rfl rfl rfl rfl g4 ?_
            refine JA_skip (i := 18) rfl (by kernel_rfl) rfl rfl rfl rfl g4 ?_
            refine JA_skip (i := 19) rfl (by kernel_rfl) rfl rfl rfl rfl g4 ?_
            refine JA_skip (i := 20) rfl (by kernel_rfl) rfl rfl rfl rfl g4 ?_
            refine JA_skip (i := 21) rfl (by kernel_rfl) rfl rfl rfl rfl g4 ?_
            refine JA_skip (i := 22) rfl (by kernel_rfl) rfl rfl rfl rfl g4 ?_
            refine JA_skip (i := 23) rfl (by kernel_rfl) rfl rfl rfl rfl g4 ?_
            refine JA_skip (i := 24) rfl (by kernel_rfl) rfl rfl rfl rfl g4 ?_
            refine JA_gpd (i := 25) rfl (by kernel_rfl) rfl rfl rfl rfl g2 (det_pick_f rfl g4 rfl) ?_
            refine JA_pd (i := 26) rfl (by kernel_rfl) rfl rfl (det_pick_f rfl g2 rfl) ?_
            refine JA_done (by kernel_rfl) ?_
            refine JE_seq ?_
            refine JC_condF rfl rfl ?_
            refine JC_skip ?_
            refine JE_seq ?_
            refine JC_seq ?_
            refine JC_seq ?_
            refine JC_region ?_
            refine JL_pd rfl (det_move rfl) ?_
            -- stop: op  1 t93 := (call (Call (value f44) (t92 30) (22 3)))   <0>   129
            refine JL_step rfl rfl rfl (jo_callv rfl rfl Try.call44 rfl (hrisT)) fun _ => ?_
            refine JL_pd rfl (det_not rfl) ?_
            refine JL_nil ?_
            refine JE_seq ?_
            -- stop: cond
            refine JC_cond rfl (fun k3 => ?_) (fun k3 => ?_)
            · refine JC_seq ?_
              refine JC_region ?_
              refine JL_pd rfl (det_move rfl) ?_
              refine JL_pd rfl (det_eql rfl rfl) ?_
              refine JL_pd rfl (det_move rfl) ?_
              -- stop: guard 2
              refine JL_is (d0 := 97) true rfl (by simp) (fun h7 => ?_)
              refine JL_guard rfl rfl h7 ?_
              refine JL_pd rfl (det_move rfl) ?_
              refine JL_guard rfl rfl h7 ?_
              refine JL_pd rfl (det_eql rfl rfl) ?_
              refine JL_pd rfl (det_pick_t rfl h7 rfl) ?_
              refine JL_pd rfl (det_move rfl) ?_
              refine JL_is (d0 := 101) true rfl (by simp) (fun h8 => ?_)
              refine JL_guard rfl rfl h8 ?_
              refine JL_step rfl rfl rfl (jo_callv rfl rfl Try.call17 rfl (awake_j)) fun _ => ?_
              refine JL_pd rfl (det_pick_t rfl h8 rfl) ?_
              refine JL_pd rfl (det_assign rfl) ?_
              refine JL_nil ?_
              refine JE_seq ?_
              refine JC_ret ?_
              refine JE_seq_ret ?_
              refine JE_out (.inl rfl) () (results1 Try.results10 (res_tmp rfl)) ?_ (List.Perm.refl _) (fun _ _ => trivial)
              rfl
            · cases k3
        · skip
          refine JA_is (d0 := 76) false rfl (by exact decide_eq_false (by omega)) (fun g3 => ?_)
          refine JA_skip (i := 12) rfl (by kernel_rfl) rfl rfl rfl rfl g3 ?_
          refine JA_skip (i := 13) rfl (by kernel_rfl) rfl rfl rfl rfl g3 ?_
          refine JA_skip (i := 14) rfl (by kernel_rfl) rfl rfl rfl rfl g3 ?_
          refine JA_gpd (i := 15) rfl (by kernel_rfl) rfl rfl rfl rfl g2 (det_pick_f rfl g3 rfl) ?_
          refine JA_gpd (i := 16) rfl (by kernel_rfl) rfl rfl rfl rfl g2 (det_move rfl) ?_
          refine JA_skip (i := 17) rfl (by kernel_rfl) rfl rfl rfl rfl rfl ?_
          refine JA_skip (i := 18) rfl (by kernel_rfl) rfl rfl rfl rfl rfl ?_
          refine JA_skip (i := 19) rfl (by kernel_rfl) rfl rfl rfl rfl rfl ?_
          refine JA_skip (i := 20) rfl (by kernel_rfl) rfl rfl rfl rfl rfl ?_
          refine JA_skip (i := 21) rfl (by kernel_rfl) rfl rfl rfl rfl rfl ?_
          refine JA_skip (i := 22) rfl (by kernel_rfl) rfl rfl rfl rfl rfl ?_
          refine JA_skip (i := 23) rfl (by kernel_rfl) rfl rfl rfl rfl rfl ?_
          refine JA_skip (i := 24) rfl (by kernel_rfl) rfl rfl rfl rfl rfl ?_
          refine JA_gpd (i := 25) rfl (by kernel_rfl) rfl rfl rfl rfl g2 (det_pick_f rfl rfl rfl) ?_
          refine JA_pd (i := 26) rfl (by kernel_rfl) rfl rfl (det_pick_f rfl g2 rfl) ?_
          refine JA_done (by kernel_rfl) ?_
          refine JE_seq ?_
          refine JC_condF rfl rfl ?_
          refine JC_skip ?_
          refine JE_seq ?_
          refine JC_seq ?_
          refine JC_seq ?_
          refine JC_region ?_
          refine JL_pd rfl (det_move rfl) ?_
          -- stop: op  1 t93 := (call (Call (value f44) (t92 30) (22 3)))   <0>   129
          refine JL_step rfl rfl rfl (jo_callv rfl rfl Try.call44 rfl (hrisT)) fun _ => ?_
          refine JL_pd rfl (det_not rfl) ?_
          refine JL_nil ?_
          refine JE_seq ?_
          -- stop: cond
          refine JC_cond rfl (fun k3 => ?_) (fun k3 => ?_)
          · refine JC_seq ?_
            refine JC_region ?_
            refine JL_pd rfl (det_move rfl) ?_
            refine JL_pd rfl (det_eql rfl rfl) ?_
            refine JL_pd rfl (det_move rfl) ?_
            -- stop: guard 2
            refine JL_is (d0 := 97) true rfl (by simp) (fun h9 => ?_)
            refine JL_guard rfl rfl h9 ?_
            refine JL_pd rfl (det_move rfl) ?_
            refine JL_guard rfl rfl h9 ?_
            refine JL_pd rfl (det_eql rfl rfl) ?_
            refine JL_pd rfl (det_pick_t rfl h9 rfl) ?_
            refine JL_pd rfl (det_move rfl) ?_
            refine JL_is (d0 := 101) true rfl (by simp) (fun h10 => ?_)
            refine JL_guard rfl rfl h10 ?_
            refine JL_step rfl rfl rfl (jo_callv rfl rfl Try.call17 rfl (awake_j)) fun _ => ?_
            refine JL_pd rfl (det_pick_t rfl h10 rfl) ?_
            refine JL_pd rfl (det_assign rfl) ?_
            refine JL_nil ?_
            refine JE_seq ?_
            refine JC_ret ?_
            refine JE_seq_ret ?_
            refine JE_out (.inl rfl) () (results1 Try.results10 (res_tmp rfl)) ?_ (List.Perm.refl _) (fun _ _ => trivial)
            rfl
          · cases k3
    · have hbnd := fun (q : QH) (g : QG xs) (c : QH) => Bound_ce x q xs g T c.1 c.2 c1
      refine JC_skip ?_
      refine JE_seq ?_
      refine JC_seq ?_
      refine JC_region ?_
      refine JL_dt rfl (det_loadKA rfl Try.isAgg24 Try.sizeOf24 rfl rfl) ?_
      refine JL_step rfl rfl rfl (jo_call rfl rfl Try.call19 rfl (lHouse_j x (by omega))) fun x24 => ?_
      refine JL_pd rfl (det_move rfl) ?_
      refine JL_step rfl rfl rfl (jo_call rfl rfl Try.call20 rfl (lGroups_j ga gc xs (by omega) hft)) fun x26 => ?_
      refine JL_pd rfl (det_move rfl) ?_
      refine JL_step rfl rfl rfl (jo_call rfl rfl Try.call23 rfl (lList_j T a cap (by omega))) fun x28 => ?_
      refine JL_step rfl rfl rfl (jo_callv rfl rfl Try.call42 rfl (hbnd x24 x26 x28)) fun _ => ?_
      refine JL_pd rfl (det_move rfl) ?_
      refine JL_pd rfl (det_extract rfl rfl) ?_
      refine JL_pd rfl (det_extract rfl rfl) ?_
      refine JL_pd rfl (det_assign rfl) ?_
      refine JL_pd rfl (det_assign rfl) ?_
      refine JL_nil ?_
      refine JE_seq ?_
      refine JC_seq ?_
      refine JC_region ?_
      refine JL_dt rfl (det_loadKA rfl Try.isAgg24 Try.sizeOf24 rfl rfl) ?_
      refine JL_step rfl rfl rfl (jo_call rfl rfl Try.call19 rfl (lHouse_j x (by omega))) fun x34 => ?_
      refine JL_pd rfl (det_move rfl) ?_
      refine JL_step rfl rfl rfl (jo_call rfl rfl Try.call20 rfl (lGroups_j ga gc xs (by omega) hft)) fun x36 => ?_
      refine JL_step rfl rfl rfl (jo_callv rfl rfl Try.call43 rfl (Marks_ce x x34 xs x36 c1)) fun _ => ?_
      refine JL_pd rfl (det_move rfl) ?_
      refine JL_pd rfl (det_extract rfl rfl) ?_
      refine JL_pd rfl (det_extract rfl rfl) ?_
      refine JL_pd rfl (det_assign rfl) ?_
      refine JL_pd rfl (det_assign rfl) ?_
      refine JL_nil ?_
      refine JE_seq ?_
      refine JC_seq ?_
      refine JC_region ?_
      refine JL_dt rfl (det_loadKA rfl Try.isAgg24 Try.sizeOf24 rfl rfl) ?_
      refine JL_pd rfl (det_move rfl) ?_
      refine JL_step rfl rfl rfl (jo_callv rfl rfl Try.call24 rfl (fault_jl x ga gc xs)) fun _ => ?_
      refine JL_pd rfl (det_assign rfl) ?_
      refine JL_nil ?_
      refine JE_seq ?_
      refine JC_seq ?_
      refine JC_seq ?_
      refine JC_region ?_
      refine JL_pd rfl (det_move rfl) ?_
      refine JL_pd rfl (det_neq rfl rfl) ?_
      refine JL_nil ?_
      refine JE_seq ?_
      -- stop: cond
      refine JC_ifn rfl (fun k1 => ?_) (fun k1 => ?_)
      · refine JC_seq ?_
        refine JC_region ?_
        refine JL_pd rfl (det_move rfl) ?_
        refine JL_pd rfl (det_move rfl) ?_
        refine JL_pd rfl (det_eql rfl rfl) ?_
        refine JL_pd rfl (det_move rfl) ?_
        -- stop: guard 3
        refine JL_is (d0 := 48) true rfl (by simp) (fun h11 => ?_)
        refine JL_guard rfl rfl h11 ?_
        refine JL_pd rfl (det_move rfl) ?_
        refine JL_guard rfl rfl h11 ?_
        refine JL_pd rfl (det_move rfl) ?_
        refine JL_guard rfl rfl h11 ?_
        refine JL_pd rfl (det_eql rfl rfl) ?_
        refine JL_pd rfl (det_pick_t rfl h11 rfl) ?_
        refine JL_pd rfl (det_move rfl) ?_
        refine JL_is (d0 := 53) true rfl (by simp) (fun h12 => ?_)
        refine JL_guard rfl rfl h12 ?_
        refine JL_pd rfl (det_move rfl) ?_
        refine JL_guard rfl rfl h12 ?_
        refine JL_pd rfl (det_eql rfl rfl) ?_
        refine JL_pd rfl (det_pick_t rfl h12 rfl) ?_
        refine JL_pd rfl (det_move rfl) ?_
        refine JL_is (d0 := 57) true rfl (by simp) (fun h13 => ?_)
        refine JL_guard rfl rfl h13 ?_
        refine JL_pd rfl (det_move rfl) ?_
        refine JL_guard rfl rfl h13 ?_
        refine JL_pd rfl (det_len rfl Try.runUnderlying22) ?_
        refine JL_guard rfl rfl h13 ?_
        refine JL_pd rfl (det_eql rfl rfl) ?_
        refine JL_pd rfl (det_pick_t rfl h13 rfl) ?_
        refine JL_pd rfl (det_move rfl) ?_
        refine JL_is (d0 := 62) true rfl (by simp) (fun h14 => ?_)
        refine JL_guard rfl rfl h14 ?_
        refine JL_step rfl rfl rfl (jo_callv rfl rfl Try.call17 rfl (awake_j)) fun _ => ?_
        refine JL_pd rfl (det_pick_t rfl h14 rfl) ?_
        refine JL_pd rfl (det_assign rfl) ?_
        refine JL_nil ?_
        refine JE_seq ?_
        refine JC_ret ?_
        refine JE_seq_ret ?_
        refine JE_out (.inl rfl) () (results1 Try.results10 (res_tmp rfl)) ?_ (List.Perm.refl _) (fun _ _ => trivial)
        rfl
      · exact absurd k1 c1
end Go.Proofs.Ytkmaafnbefpdjaa
