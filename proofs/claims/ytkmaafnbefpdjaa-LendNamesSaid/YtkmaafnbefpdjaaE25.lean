/- The statements about lend: LendProof. -/
import Derived.Test.YtkmaafnbefpdjaaE24
set_option linter.unusedSimpArgs false
set_option linter.unusedVariables false
namespace Go.Proofs.Ytkmaafnbefpdjaa
open Go.RowKit Go.Shelf

theorem planned_of {x : Hx} {xs : List Gx} {p : List Int} (c : fault x.h (gs xs) = 0) (h : ServeFacts x.h.lanes.toNat (gs xs) p) (hl : 0 ≤ x.h.lanes) : plannedE x.h (gs xs) p = 0 := by
  unfold plannedE
  rw [if_neg (by omega), if_neg (by rw [isPlan_eq, IsPlan_ok h hl]; decide), if_neg (by rw [show rightB (gs xs) p = true from decide_eq_true h.right]; decide)]
theorem marks_len {M : List Int} (m1 : M.Pairwise (· < ·)) (m2 : ∀ t ∈ M, 0 ≤ t ∧ t ≤ 30) : M.length ≤ 31 := by
  have hnd : M.Nodup := m1.imp fun h => by omega
  have := nodup_len hnd (l' := (List.range 31).map fun n : Nat => (n : Int)) fun t ht => by
    have := m2 t ht
    exact List.mem_map.2 ⟨t.toNat, List.mem_range.2 (by omega), by omega⟩
  simpa using this
set_option maxRecDepth 100000 in
set_option maxHeartbeats 1000000 in
theorem LendProof_j (x : Hx) (ga : Option Addr) (gc : Nat) (xs : List Gx) (a : Option Addr) (cap : Nat) (plan : List Int) (ta : Option Addr) (tc : Nat) (T : List Int) : Cv Try.prog 11 [.agg #[I x.h.lanes, .slice x.a x.h.shoes.length x.c], .slice ga xs.length gc, .slice a plan.length cap, .slice ta T.length tc] (KAnd (KHx x) (KAnd (KGs ga gc xs) (KAnd (KSl a plan.length cap encI plan) (KSl ta T.length tc encI T)))) (.bool true) := by
  refine Cx_of Try.func11 rfl Try.ntmps11 rfl fun w0 M0 => ?_
  refine JC_seq ?_
  refine JC_region ?_
  refine JL_step rfl rfl rfl (jo_box rfl rfl) fun b4 => ?_
  refine JL_pd rfl (det_assign rfl) ?_
  refine JL_nil ?_
  refine JE_seq ?_
  refine JC_seq ?_
  refine JC_seq ?_
  refine JC_region ?_
  refine JL_dt rfl (det_loadKA rfl Try.isAgg24 Try.sizeOf24 rfl rfl) ?_
  refine JL_pd rfl (det_move rfl) ?_
  refine JL_step rfl rfl rfl (jo_callv rfl rfl Try.call33 rfl (ready_j x ga gc xs)) fun _ => ?_
  refine JL_pd rfl (det_not rfl) ?_
  refine JL_pd rfl (det_move rfl) ?_
  -- stop: guard 4
  refine JL_join1 9 31 (.bool (!readyB x.h (gs xs) || decide ((12 : Int) < (plan.length : Int)) || decide ((40 : Int) < (T.length : Int)))) (fun hj => ?_) ?_
  · refine JL_split (d0 := 22) rfl (fun q1 => ?_) (fun q1 => ?_)
    · refine JL_skip rfl rfl q1 rfl ?_
      refine JL_skip rfl rfl q1 rfl ?_
      refine JL_skip rfl rfl q1 rfl ?_
      refine JL_pd rfl (det_pick_t rfl q1 rfl) ?_
      refine JL_pd rfl (det_move rfl) ?_
      refine JL_skip rfl rfl rfl rfl ?_
      refine JL_skip rfl rfl rfl rfl ?_
      refine JL_skip rfl rfl rfl rfl ?_
      refine JL_pd rfl (det_pick_t rfl rfl rfl) ?_
      exact hj (by kernel_rfl) (stsub_consB rfl (by clear hj; first | rfl | (simp only [q1, Bool.and_true, Bool.true_and, Bool.false_and, Bool.and_false, Bool.or_true, Bool.true_or, Bool.or_false, Bool.false_or, Bool.not_true, Bool.not_false]; done) | (simp [q1]; done) | (simp at q1; done) | (simp [q1] <;> omega) | (exfalso; simp at q1; omega)) stsub_nil)
    · refine JL_guard rfl rfl q1 ?_
      refine JL_pd rfl (det_move rfl) ?_
      refine JL_guard rfl rfl q1 ?_
      refine JL_pd rfl (det_len rfl Try.runUnderlying22) ?_
      refine JL_guard rfl rfl q1 ?_
      refine JL_pd rfl (det_gtr rfl rfl) ?_
      refine JL_pd rfl (det_pick_f rfl q1 rfl) ?_
      refine JL_pd rfl (det_move rfl) ?_
      refine JL_split (d0 := 27) rfl (fun q2 => ?_) (fun q2 => ?_)
      · refine JL_skip rfl rfl q2 rfl ?_
        refine JL_skip rfl rfl q2 rfl ?_
        refine JL_skip rfl rfl q2 rfl ?_
        refine JL_pd rfl (det_pick_t rfl q2 rfl) ?_
        exact hj (by kernel_rfl) (stsub_consB rfl (by clear hj; first | rfl | (simp only [q1, q2, Bool.and_true, Bool.true_and, Bool.false_and, Bool.and_false, Bool.or_true, Bool.true_or, Bool.or_false, Bool.false_or, Bool.not_true, Bool.not_false]; done) | (simp [q1, q2]; done) | (simp at q1; done) | (simp at q2; done) | (simp [q1, q2] <;> omega) | (exfalso; simp at q1 q2; omega) | (simp [q2] at q1; done) | (simp [q1] at q2; done)) stsub_nil)
      · refine JL_guard rfl rfl q2 ?_
        refine JL_pd rfl (det_move rfl) ?_
        refine JL_guard rfl rfl q2 ?_
        refine JL_pd rfl (det_len rfl Try.runUnderlying22) ?_
        refine JL_guard rfl rfl q2 ?_
        refine JL_pd rfl (det_gtr rfl rfl) ?_
        refine JL_pd rfl (det_pick_f rfl q2 rfl) ?_
        exact hj (by kernel_rfl) (stsub_consB rfl (by clear hj; first | rfl | (simp only [q1, q2, Bool.and_true, Bool.true_and, Bool.false_and, Bool.and_false, Bool.or_true, Bool.true_or, Bool.or_false, Bool.false_or, Bool.not_true, Bool.not_false]; done) | (simp [q1, q2]; done) | (simp at q1; done) | (simp at q2; done) | (simp [q1, q2] <;> omega) | (exfalso; simp at q1 q2; omega) | (simp [q2] at q1; done) | (simp [q1] at q2; done)) stsub_nil)
  refine JL_nil ?_
  refine JE_seq ?_
  -- stop: cond
  refine JC_cond rfl (fun h1 => ?_) (fun h1 => ?_)
  · refine JC_seq ?_
    refine JC_region ?_
    refine JL_step rfl rfl rfl (jo_callv rfl rfl Try.call17 rfl (awake_j)) fun _ => ?_
    refine JL_pd rfl (det_assign rfl) ?_
    refine JL_nil ?_
    refine JE_seq ?_
    refine JC_ret ?_
    refine JE_seq_ret ?_
    -- stop: out
    refine JE_out (.inl rfl) () (results1 Try.results11 (res_tmp rfl)) rfl (List.Perm.refl _) (fun _ _ => trivial)
  · simp only [Bool.or_eq_false_iff, Bool.not_eq_false', decide_eq_false_iff_not] at h1
    obtain ⟨⟨h1, h2⟩, h3⟩ := h1
    obtain ⟨⟨t1, t2, t3⟩, c1⟩ := ready_of h1
    have hgl : (gs xs).length = xs.length := List.length_map _
    rw [hgl] at t2
    have hpl : plan.length ≤ 12 := by omega
    have hTl : T.length ≤ 40 := by omega
    have hft : ∀ y ∈ xs, y.g.feet.length ≤ 1000 := fun y hy => by have := t3 y.g (List.mem_map.2 ⟨y, hy, rfl⟩); omega
    have V := vld_of c1
    have hl0 := V.hs.l0
    have hl1 := V.hs.l1
    obtain ⟨k, hk⟩ : ∃ k : Nat, x.h.lanes.toNat = k := ⟨_, rfl⟩
    have hkk : x.h.lanes = (k : Int) := by omega
    refine JC_skip ?_
    refine JE_seq ?_
    refine JC_seq ?_
    refine JC_region ?_
    refine JL_dt rfl (det_loadKA rfl Try.isAgg24 Try.sizeOf24 rfl rfl) ?_
    refine JL_step rfl rfl rfl (jo_call rfl rfl Try.call19 rfl (lHouse_j x (by omega))) fun x35 => ?_
    refine JL_pd rfl (det_move rfl) ?_
    refine JL_step rfl rfl rfl (jo_call rfl rfl Try.call20 rfl (lGroups_j ga gc xs (by omega) hft)) fun x37 => ?_
    refine JL_step rfl rfl rfl (jo_call rfl rfl Try.call21 rfl (Serve_c x x35 xs x37 c1)) fun x38 => ?_
    refine JL_pd rfl (det_move rfl) ?_
    refine JL_pd rfl (det_extract rfl rfl) ?_
    refine JL_pd rfl (det_extract rfl rfl) ?_
    refine JL_pd rfl (det_assign rfl) ?_
    refine JL_pd rfl (det_assign rfl) ?_
    refine JL_nil ?_
    refine JE_seq ?_
    refine JC_seq ?_
    refine JC_region ?_
    refine JL_dt rfl (det_loadKA rfl Try.isAgg24 Try.sizeOf24 rfl rfl) ?_
    refine JL_step rfl rfl rfl (jo_call rfl rfl Try.call19 rfl (lHouse_j x (by omega))) fun x43 => ?_
    refine JL_pd rfl (det_move rfl) ?_
    refine JL_step rfl rfl rfl (jo_call rfl rfl Try.call20 rfl (lGroups_j ga gc xs (by omega) hft)) fun x45 => ?_
    refine JL_step rfl rfl rfl (jo_call rfl rfl Try.call43 rfl (Marks_c x x43 xs x45 c1)) fun x46 => ?_
    refine JL_pd rfl (det_move rfl) ?_
    refine JL_pd rfl (det_extract rfl rfl) ?_
    refine JL_pd rfl (det_extract rfl rfl) ?_
    refine JL_pd rfl (det_assign rfl) ?_
    refine JL_pd rfl (det_assign rfl) ?_
    refine JL_nil ?_
    refine JE_seq ?_
    refine JC_seq ?_
    refine JC_seq ?_
    refine JC_region ?_
    refine JL_pd rfl (det_move rfl) ?_
    refine JL_pd rfl (det_neq rfl rfl) ?_
    refine JL_pd rfl (det_move rfl) ?_
    -- stop: guard 2
    obtain ⟨pb, p, hp⟩ := x38
    have hF := serve_facts V.gr hp
    have hpn : p.length = xs.length := by rw [hF.n, hgl]
    have hFk := hF
    rw [hk] at hFk
    obtain ⟨m1, m2, m3⟩ := marks_facts V.gr hFk
    have hri := marks_risB V.gr hFk
    rw [← hkk] at m1 m2 m3 hri
    have hpp := planned_of c1 hF hl0
    generalize marksV x.h.lanes (gs xs) = M at m1 m2 m3 hri ⊢
    have hml := marks_len m1 m2
    have hbM := fun (q : QH) (g : QG xs) (c : QH) => Bound_c x q xs g M c.1 c.2 c1 (by omega)
    rw [show boundE x (gs xs) M = .tuple #[I ((served p : Nat) : Int), I 0] by unfold boundE; rw [if_pos hri, hk, m3]] at hbM
    have hPp := fun (q : QH) (g : QG xs) (c : QH) => ProvePlan_c x q xs g p c.1 c.2 (served p : Nat)
    rw [decide_eq_true hpp, decide_eq_true (Int.le_refl _), Bool.true_and] at hPp
    have hPq := fun (q : QH) (g : QG xs) (c : QH) => ProvePlan_c x q xs g plan c.1 c.2 ((served p : Nat) + 1)
    rw [show (decide (plannedE x.h (gs xs) plan = 0) && decide (((served p : Nat) : Int) + 1 ≤ (served plan : Nat))) = false by
      by_cases c2 : plannedE x.h (gs xs) plan = 0
      · have hG := goodP_of c2
        have := serve_most hF hG.n (fun n hn => by have := hG.lane n hn; omega) hG.right
        rw [decide_eq_true c2, Bool.true_and]; exact decide_eq_false (by omega)
      · rw [decide_eq_false c2, Bool.false_and]] at hPq
    have hsl : served p ≤ p.length := List.countP_le_length
    refine JL_is (d0 := 51) false rfl (by rfl) (fun g1 => ?_)
    refine JL_guard rfl rfl g1 ?_
    refine JL_pd rfl (det_move rfl) ?_
    refine JL_guard rfl rfl g1 ?_
    refine JL_pd rfl (det_neq rfl rfl) ?_
    refine JL_pd rfl (det_pick_f rfl g1 rfl) ?_
    refine JL_nil ?_
    refine JE_seq ?_
    -- stop: cond
    refine JC_cond rfl (fun k1 => ?_) (fun k1 => ?_)
    · exact absurd k1 (by decide)
    refine JC_skip ?_
    refine JE_seq ?_
    refine JC_seq ?_
    refine JC_region ?_
    refine JL_dt rfl (det_loadKA rfl Try.isAgg24 Try.sizeOf24 rfl rfl) ?_
    refine JL_step rfl rfl rfl (jo_call rfl rfl Try.call19 rfl (lHouse_j x (by omega))) fun x57 => ?_
    refine JL_pd rfl (det_move rfl) ?_
    refine JL_step rfl rfl rfl (jo_call rfl rfl Try.call20 rfl (lGroups_j ga gc xs (by omega) hft)) fun x59 => ?_
    refine JL_pd rfl (det_move rfl) ?_
    -- stop: op  5 t61 := (call (Call (value f23) (t60) (22)))   <4 3>   100
    refine JL_step rfl rfl rfl (jo_call rfl rfl Try.call23 rfl (lList_j M _ _ (by omega))) fun cm => ?_
    -- stop: op  6 t62 := (call (Call (value f42) (t57 t59 t61) (30 32 22)))   <1 3 5 5>   100
    refine JL_step rfl rfl rfl (jo_callv rfl rfl Try.call42 rfl (hbM x57 x59 cm)) fun _ => ?_
    refine JL_pd rfl (det_move rfl) ?_
    refine JL_pd rfl (det_extract rfl rfl) ?_
    refine JL_pd rfl (det_extract rfl rfl) ?_
    refine JL_pd rfl (det_assign rfl) ?_
    refine JL_pd rfl (det_assign rfl) ?_
    refine JL_nil ?_
    refine JE_seq ?_
    refine JC_seq ?_
    refine JC_region ?_
    refine JL_pd rfl (det_move rfl) ?_
    -- stop: op  1 t66 := (call (Call (value f26) (t65) (22)))   <0>   101
    refine JL_step rfl rfl rfl (jo_callv rfl rfl Try.call26 rfl (Served_j _ _ p (by omega))) fun _ => ?_
    refine JL_pd rfl (det_assign rfl) ?_
    refine JL_nil ?_
    refine JE_seq ?_
    refine JC_seq ?_
    refine JC_seq ?_
    refine JC_region ?_
    refine JL_pd rfl (det_move rfl) ?_
    refine JL_pd rfl (det_neq rfl rfl) ?_
    refine JL_pd rfl (det_move rfl) ?_
    -- stop: guard 2
    refine JL_is (d0 := 69) false rfl (by rfl) (fun g2 => ?_)
    refine JL_guard rfl rfl g2 ?_
    refine JL_pd rfl (det_move rfl) ?_
    refine JL_guard rfl rfl g2 ?_
    refine JL_pd rfl (det_move rfl) ?_
    refine JL_guard rfl rfl g2 ?_
    refine JL_pd rfl (det_neq rfl rfl) ?_
    refine JL_pd rfl (det_pick_f rfl g2 rfl) ?_
    refine JL_pd rfl (det_move rfl) ?_
    -- stop: guard 7
    refine JL_is (d0 := 74) false rfl (by simp) (fun g3 => ?_)
    refine JL_guard rfl rfl g3 ?_
    refine JL_dt rfl (det_loadKA rfl Try.isAgg24 Try.sizeOf24 rfl rfl) ?_
    refine JL_guard rfl rfl g3 ?_
    refine JL_step rfl rfl rfl (jo_call rfl rfl Try.call19 rfl (lHouse_j x (by omega))) fun x76 => ?_
    refine JL_guard rfl rfl g3 ?_
    refine JL_pd rfl (det_move rfl) ?_
    refine JL_guard rfl rfl g3 ?_
    refine JL_step rfl rfl rfl (jo_call rfl rfl Try.call20 rfl (lGroups_j ga gc xs (by omega) hft)) fun x78 => ?_
    refine JL_guard rfl rfl g3 ?_
    refine JL_pd rfl (det_move rfl) ?_
    refine JL_guard rfl rfl g3 ?_
    -- stop: op 13 t80 := (call (Call (value f23) (t79) (22)))   <12 11 7>   102
    refine JL_step rfl rfl rfl (jo_call rfl rfl Try.call23 rfl (lList_j p _ _ (by omega))) fun cp => ?_
    refine JL_guard rfl rfl g3 ?_
    refine JL_pd rfl (det_move rfl) ?_
    refine JL_guard rfl rfl g3 ?_
    -- stop: op 15 t82 := (call (Call (value f22) (t76 t78 t80 t81) (30 32 22 3)))   <9 11 13 14 13 7>   102
    refine JL_step rfl rfl rfl (jo_callv rfl rfl Try.call22 rfl (hPp x76 x78 cp)) fun _ => ?_
    refine JL_guard rfl rfl g3 ?_
    refine JL_pd rfl (det_not rfl) ?_
    refine JL_pd rfl (det_pick_f rfl g3 rfl) ?_
    refine JL_pd rfl (det_move rfl) ?_
    -- stop: guard 18
    refine JL_is (d0 := 85) false rfl (by rfl) (fun g4 => ?_)
    refine JL_guard rfl rfl g4 ?_
    refine JL_dt rfl (det_loadKA rfl Try.isAgg24 Try.sizeOf24 rfl rfl) ?_
    refine JL_guard rfl rfl g4 ?_
    refine JL_step rfl rfl rfl (jo_call rfl rfl Try.call19 rfl (lHouse_j x (by omega))) fun x87 => ?_
    refine JL_guard rfl rfl g4 ?_
    refine JL_pd rfl (det_move rfl) ?_
    refine JL_guard rfl rfl g4 ?_
    refine JL_step rfl rfl rfl (jo_call rfl rfl Try.call20 rfl (lGroups_j ga gc xs (by omega) hft)) fun x89 => ?_
    refine JL_guard rfl rfl g4 ?_
    refine JL_pd rfl (det_move rfl) ?_
    refine JL_guard rfl rfl g4 ?_
    -- stop: op 24 t91 := (call (Call (value f23) (t90) (22)))   <23 22 18>   102
    refine JL_step rfl rfl rfl (jo_call rfl rfl Try.call23 rfl (lList_j plan _ _ (by omega))) fun cq => ?_
    refine JL_guard rfl rfl g4 ?_
    refine JL_pd rfl (det_move rfl) ?_
    refine JL_guard rfl rfl g4 ?_
    refine JL_pd rfl (det_add rfl rfl ⟨by omega, by omega⟩) ?_
    refine JL_guard rfl rfl g4 ?_
    -- stop: op 27 t94 := (call (Call (value f22) (t87 t89 t91 t93) (30 32 22 3)))   <20 22 24 26 24 18>   102
    refine JL_step rfl rfl rfl (jo_callv rfl rfl Try.call22 rfl (hPq x87 x89 cq)) fun _ => ?_
    refine JL_pd rfl (det_pick_f rfl g4 rfl) ?_
    refine JL_nil ?_
    refine JE_seq ?_
    -- stop: cond
    refine JC_cond rfl (fun k2 => ?_) (fun k2 => ?_)
    · cases k2
    refine JC_skip ?_
    refine JE_seq ?_
    refine JC_seq ?_
    refine JC_region ?_
    refine JL_dt rfl (det_loadKA rfl Try.isAgg24 Try.sizeOf24 rfl rfl) ?_
    refine JL_step rfl rfl rfl (jo_call rfl rfl Try.call19 rfl (lHouse_j x (by omega))) fun x98 => ?_
    refine JL_pd rfl (det_move rfl) ?_
    refine JL_step rfl rfl rfl (jo_call rfl rfl Try.call20 rfl (lGroups_j ga gc xs (by omega) hft)) fun x100 => ?_
    refine JL_pd rfl (det_move rfl) ?_
    -- stop: op  5 t102 := (call (Call (value f23) (t101) (22)))   <4 3>   105
    refine JL_step rfl rfl rfl (jo_call rfl rfl Try.call23 rfl (lList_j T _ _ (by omega))) fun ct => ?_
    -- stop: op  6 t103 := (call (Call (value f42) (t98 t100 t102) (30 32 22)))   <1 3 5 5>   105
    by_cases c3 : risB (fun n => inI n 0 30) T = true
    · have hbT := fun (q : QH) (g : QG xs) (c : QH) => Bound_c x q xs g T c.1 c.2 c1 (by omega)
      rw [show boundE x (gs xs) T = .tuple #[I ((boundL x.h.lanes.toNat (gs xs) T : Nat) : Int), I 0] from if_pos c3] at hbT
      have hle := right_le hF.n (fun n hn => (hF.lane n hn).2) hF.right T
      refine JL_step rfl rfl rfl (jo_callv rfl rfl Try.call42 rfl (hbT x98 x100 ct)) fun _ => ?_
      refine JL_pd rfl (det_move rfl) ?_
      refine JL_pd rfl (det_extract rfl rfl) ?_
      refine JL_pd rfl (det_extract rfl rfl) ?_
      refine JL_pd rfl (det_assign rfl) ?_
      refine JL_pd rfl (det_assign rfl) ?_
      refine JL_nil ?_
      refine JE_seq ?_
      refine JC_seq ?_
      refine JC_region ?_
      refine JL_pd rfl (det_move rfl) ?_
      refine JL_pd rfl (det_eql rfl rfl) ?_
      refine JL_pd rfl (det_move rfl) ?_
      -- stop: guard 2
      refine JL_is (d0 := 108) false rfl (by rfl) (fun g5 => ?_)
      refine JL_guard rfl rfl g5 ?_
      refine JL_pd rfl (det_move rfl) ?_
      refine JL_guard rfl rfl g5 ?_
      refine JL_pd rfl (det_eql rfl rfl) ?_
      refine JL_guard rfl rfl g5 ?_
      refine JL_pd rfl (det_move rfl) ?_
      -- stop: guard 5
      refine JL_is (d0 := 111) true rfl (by rfl) (fun g6 => ?_)
      refine JL_guard rfl rfl g6 ?_
      refine JL_pd rfl (det_move rfl) ?_
      refine JL_guard rfl rfl g6 ?_
      refine JL_pd rfl (det_move rfl) ?_
      refine JL_guard rfl rfl g6 ?_
      refine JL_pd rfl (det_geq rfl rfl) ?_
      refine JL_guard rfl rfl g5 ?_
      refine JL_pd rfl (det_pick_t rfl g6 rfl) ?_
      refine JL_pd rfl (det_pick_f rfl g5 rfl) ?_
      refine JL_pd rfl (det_move rfl) ?_
      -- stop: guard 11
      refine JL_is (d0 := 117) true rfl (by (first | rfl | exact decide_eq_true (by omega))) (fun h3 => ?_)
      refine JL_guard rfl rfl h3 ?_
      refine JL_step rfl rfl rfl (jo_callv rfl rfl Try.call17 rfl (awake_j)) fun _ => ?_
      refine JL_pd rfl (det_pick_t rfl h3 rfl) ?_
      refine JL_pd rfl (det_assign rfl) ?_
      refine JL_nil ?_
      refine JE_seq ?_
      refine JC_ret ?_
      refine JE_out (.inl rfl) () (results1 Try.results11 (res_tmp rfl)) ?_ (List.Perm.refl _) (fun _ _ => trivial)
      rfl
    · have hbT := fun (q : QH) (g : QG xs) (c : QH) => Bound_c x q xs g T c.1 c.2 c1 (by omega)
      rw [show boundE x (gs xs) T = .tuple #[I 0, I 2] from if_neg c3] at hbT
      refine JL_step rfl rfl rfl (jo_callv rfl rfl Try.call42 rfl (hbT x98 x100 ct)) fun _ => ?_
      refine JL_pd rfl (det_move rfl) ?_
      refine JL_pd rfl (det_extract rfl rfl) ?_
      refine JL_pd rfl (det_extract rfl rfl) ?_
      refine JL_pd rfl (det_assign rfl) ?_
      refine JL_pd rfl (det_assign rfl) ?_
      refine JL_nil ?_
      refine JE_seq ?_
      refine JC_seq ?_
      refine JC_region ?_
      refine JL_pd rfl (det_move rfl) ?_
      refine JL_pd rfl (det_eql rfl rfl) ?_
      refine JL_pd rfl (det_move rfl) ?_
      -- stop: guard 2
      refine JL_is (d0 := 108) true rfl (by rfl) (fun g5 => ?_)
      refine JL_skip rfl rfl g5 rfl ?_
      refine JL_skip rfl rfl g5 rfl ?_
      refine JL_skip rfl rfl g5 rfl ?_
      refine JL_skipU rfl rfl rfl ?_
      refine JL_skipU rfl rfl rfl ?_
      refine JL_skipU rfl rfl rfl ?_
      refine JL_skip rfl rfl g5 rfl ?_
      refine JL_pd rfl (det_pick_t rfl g5 rfl) ?_
      refine JL_pd rfl (det_move rfl) ?_
      refine JL_guard rfl rfl rfl ?_
      refine JL_step rfl rfl rfl (jo_callv rfl rfl Try.call17 rfl (awake_j)) fun _ => ?_
      refine JL_pd rfl (det_pick_t rfl rfl rfl) ?_
      refine JL_pd rfl (det_assign rfl) ?_
      refine JL_nil ?_
      refine JE_seq ?_
      refine JC_ret ?_
      -- stop: out
      refine JE_out (.inl rfl) () (results1 Try.results11 (res_tmp rfl)) ?_ (List.Perm.refl _) (fun _ _ => trivial)
      rfl
end Go.Proofs.Ytkmaafnbefpdjaa
