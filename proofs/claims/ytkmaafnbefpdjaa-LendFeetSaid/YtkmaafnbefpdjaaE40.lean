/- The statements about lend: LendFeet. -/
import Derived.Test.YtkmaafnbefpdjaaE40p
set_option linter.unusedSimpArgs false
set_option linter.unusedVariables false
namespace Go.Proofs.Ytkmaafnbefpdjaa
open Go.RowKit Go.Shelf

set_option maxRecDepth 100000 in
set_option maxHeartbeats 4000000 in
theorem LendFeet_j (x : Hx) (fa : Option Addr) (fc : Nat) (feet : List Int) (sa : Option Addr) (sc : Nat) (S : List Int) (wa : Option Addr) (wc : Nat) (ws : List Int) : Cv Try.prog 14 [.agg #[I x.h.lanes, .slice x.a x.h.shoes.length x.c], .slice fa feet.length fc, .slice sa S.length sc, .slice wa ws.length wc] (KAnd (KHx x) (KAnd (KSl fa feet.length fc encI feet) (KAnd (KSl sa S.length sc encI S) (KSl wa ws.length wc encI ws)))) (.bool true) := by
  refine Cx_of Try.func14 rfl Try.ntmps14 rfl fun w0 M0 => ?_
  refine JC_seq ?_
  refine JC_region ?_
  refine JL_step rfl rfl rfl (jo_box rfl rfl) fun b4 => ?_
  refine JL_pd rfl (det_assign rfl) ?_
  refine JL_nil ?_
  refine JE_seq ?_
  refine JC_seq ?_
  refine JC_seq ?_
  refine JC_region ?_
  refine JL_dt rfl (det_loadKA rfl Try.isAgg24 Try.sizeOf24 rfl rfl) ?_
  refine JL_step rfl rfl rfl (jo_callv rfl rfl Try.call16 rfl (Thin_n x)) fun _ => ?_
  refine JL_pd rfl (det_not rfl) ?_
  refine JL_pd rfl (det_move rfl) ?_
  -- stop: guard 3
  refine JL_join1 15 35 (.bool (!thinB x.h [] || !decide (shodE x.h feet = 0) || decide ((12 : Int) < (S.length : Int)) || decide ((60 : Int) < (ws.length : Int)))) (fun hj => ?_) ?_
  · refine JL_split (d0 := 20) rfl (fun q1 => ?_) (fun q1 => ?_)
    · refine JL_skip rfl rfl q1 rfl ?_
      refine JL_skip rfl rfl q1 rfl ?_
      refine JL_skip rfl rfl q1 rfl ?_
      refine JL_skip rfl rfl q1 rfl ?_
      refine JL_pd rfl (det_pick_t rfl q1 rfl) ?_
      refine JL_pd rfl (det_move rfl) ?_
      refine JL_skip rfl rfl rfl rfl ?_
      refine JL_skip rfl rfl rfl rfl ?_
      refine JL_skip rfl rfl rfl rfl ?_
      refine JL_pd rfl (det_pick_t rfl rfl rfl) ?_
      refine JL_pd rfl (det_move rfl) ?_
      refine JL_skip rfl rfl rfl rfl ?_
      refine JL_skip rfl rfl rfl rfl ?_
      refine JL_skip rfl rfl rfl rfl ?_
      refine JL_pd rfl (det_pick_t rfl rfl rfl) ?_
      exact hj (by kernel_rfl) (stsub_consB rfl (by clear hj; first | rfl | (simp only [q1, Bool.and_true, Bool.true_and, Bool.false_and, Bool.and_false, Bool.or_true, Bool.true_or, Bool.or_false, Bool.false_or, Bool.not_true, Bool.not_false]; done) | (simp [q1]; done) | (simp at q1; done) | (simp [q1] <;> omega) | (exfalso; simp at q1; omega)) stsub_nil)
    · refine JL_guard rfl rfl q1 ?_
      refine JL_dt rfl (det_loadKA rfl Try.isAgg24 Try.sizeOf24 rfl rfl) ?_
      refine JL_guard rfl rfl q1 ?_
      refine JL_pd rfl (det_move rfl) ?_
      refine JL_guard rfl rfl q1 ?_
      refine JL_step rfl rfl rfl (jo_callv rfl rfl Try.call35 rfl (shod_jl x fa fc feet)) fun _ => ?_
      refine JL_guard rfl rfl q1 ?_
      refine JL_pd rfl (det_neq rfl rfl) ?_
      refine JL_pd rfl (det_pick_f rfl q1 rfl) ?_
      refine JL_pd rfl (det_move rfl) ?_
      refine JL_split (d0 := 26) rfl (fun q2 => ?_) (fun q2 => ?_)
      · refine JL_skip rfl rfl q2 rfl ?_
        refine JL_skip rfl rfl q2 rfl ?_
        refine JL_skip rfl rfl q2 rfl ?_
        refine JL_pd rfl (det_pick_t rfl q2 rfl) ?_
        refine JL_pd rfl (det_move rfl) ?_
        refine JL_skip rfl rfl rfl rfl ?_
        refine JL_skip rfl rfl rfl rfl ?_
        refine JL_skip rfl rfl rfl rfl ?_
        refine JL_pd rfl (det_pick_t rfl rfl rfl) ?_
        exact hj (by kernel_rfl) (stsub_consB rfl (by clear hj; first | rfl | (simp only [q1, q2, Bool.and_true, Bool.true_and, Bool.false_and, Bool.and_false, Bool.or_true, Bool.true_or, Bool.or_false, Bool.false_or, Bool.not_true, Bool.not_false]; done) | (simp [q1, q2]; done) | (simp at q1; done) | (simp at q2; done) | (simp [q1, q2] <;> omega) | (exfalso; simp at q1 q2; omega) | (simp [q2] at q1; done) | (simp [q1] at q2; done)) stsub_nil)
      · refine JL_guard rfl rfl q2 ?_
        refine JL_pd rfl (det_move rfl) ?_
        refine JL_guard rfl rfl q2 ?_
        refine JL_pd rfl (det_len rfl Try.runUnderlying22) ?_
        refine JL_guard rfl rfl q2 ?_
        refine JL_pd rfl (det_gtr rfl rfl) ?_
        refine JL_pd rfl (det_pick_f rfl q2 rfl) ?_
        refine JL_pd rfl (det_move rfl) ?_
        refine JL_split (d0 := 31) rfl (fun q3 => ?_) (fun q3 => ?_)
        · refine JL_skip rfl rfl q3 rfl ?_
          refine JL_skip rfl rfl q3 rfl ?_
          refine JL_skip rfl rfl q3 rfl ?_
          refine JL_pd rfl (det_pick_t rfl q3 rfl) ?_
          exact hj (by kernel_rfl) (stsub_consB rfl (by clear hj; first | rfl | (simp only [q1, q2, q3, Bool.and_true, Bool.true_and, Bool.false_and, Bool.and_false, Bool.or_true, Bool.true_or, Bool.or_false, Bool.false_or, Bool.not_true, Bool.not_false]; done) | (simp [q1, q2, q3]; done) | (simp at q1; done) | (simp at q2; done) | (simp at q3; done) | (simp [q1, q2, q3] <;> omega) | (exfalso; simp at q1 q2 q3; omega) | (simp [q2, q3] at q1; done) | (simp [q1, q3] at q2; done) | (simp [q1, q2] at q3; done)) stsub_nil)
        · refine JL_guard rfl rfl q3 ?_
          refine JL_pd rfl (det_move rfl) ?_
          refine JL_guard rfl rfl q3 ?_
          refine JL_pd rfl (det_len rfl Try.runUnderlying22) ?_
          refine JL_guard rfl rfl q3 ?_
          refine JL_pd rfl (det_gtr rfl rfl) ?_
          refine JL_pd rfl (det_pick_f rfl q3 rfl) ?_
          exact hj (by kernel_rfl) (stsub_consB rfl (by clear hj; first | rfl | (simp only [q1, q2, q3, Bool.and_true, Bool.true_and, Bool.false_and, Bool.and_false, Bool.or_true, Bool.true_or, Bool.or_false, Bool.false_or, Bool.not_true, Bool.not_false]; done) | (simp [q1, q2, q3]; done) | (simp at q1; done) | (simp at q2; done) | (simp at q3; done) | (simp [q1, q2, q3] <;> omega) | (exfalso; simp at q1 q2 q3; omega) | (simp [q2, q3] at q1; done) | (simp [q1, q3] at q2; done) | (simp [q1, q2] at q3; done)) stsub_nil)
  refine JL_nil ?_
  refine JE_seq ?_
  -- stop: cond
  refine JC_cond rfl (fun h1 => ?_) (fun h1 => ?_)
  · refine JC_seq ?_
    refine JC_region ?_
    refine JL_step rfl rfl rfl (jo_callv rfl rfl Try.call17 rfl (awake_j)) fun _ => ?_
    refine JL_pd rfl (det_assign rfl) ?_
    refine JL_nil ?_
    refine JE_seq ?_
    refine JC_ret ?_
    refine JE_seq_ret ?_
    -- stop: out
    refine JE_out (.inl rfl) () (results1 Try.results14 (res_tmp rfl)) rfl (List.Perm.refl _) (fun _ _ => trivial)
  · simp only [Bool.or_eq_false_iff, Bool.not_eq_false', decide_eq_true_eq, decide_eq_false_iff_not] at h1
    obtain ⟨⟨⟨h1, hsh⟩, h2⟩, h3⟩ := h1
    have F := vfeet_of hsh
    have hfn := F.n
    have hn := F.hs.n
    refine JC_skip ?_
    refine JE_seq ?_
    refine JC_seq ?_
    refine JC_region ?_
    refine JL_dt rfl (det_loadKA rfl Try.isAgg24 Try.sizeOf24 rfl rfl) ?_
    refine JL_step rfl rfl rfl (jo_call rfl rfl Try.call19 rfl (lHouse_j x (by omega))) fun x39 => ?_
    refine JL_pd rfl (det_move rfl) ?_
    refine JL_step rfl rfl rfl (jo_call rfl rfl Try.call23 rfl (lList_j feet fa fc (by omega))) fun x41 => ?_
    refine JL_step rfl rfl rfl (jo_call rfl rfl Try.call46 rfl (Fit_c x x39 feet x41.1 x41.2 hsh)) fun x42 => ?_
    refine JL_pd rfl (det_move rfl) ?_
    refine JL_pd rfl (det_extract rfl rfl) ?_
    refine JL_pd rfl (det_extract rfl rfl) ?_
    refine JL_pd rfl (det_assign rfl) ?_
    refine JL_pd rfl (det_assign rfl) ?_
    refine JL_nil ?_
    refine JE_seq ?_
    refine JC_seq ?_
    refine JC_region ?_
    refine JL_dt rfl (det_loadKA rfl Try.isAgg24 Try.sizeOf24 rfl rfl) ?_
    refine JL_step rfl rfl rfl (jo_call rfl rfl Try.call19 rfl (lHouse_j x (by omega))) fun x47 => ?_
    refine JL_pd rfl (det_move rfl) ?_
    refine JL_step rfl rfl rfl (jo_call rfl rfl Try.call23 rfl (lList_j feet fa fc (by omega))) fun x49 => ?_
    refine JL_step rfl rfl rfl (jo_call rfl rfl Try.call48 rfl (Sizes_c x x47 feet x49.1 x49.2 hsh)) fun x50 => ?_
    refine JL_pd rfl (det_move rfl) ?_
    refine JL_pd rfl (det_extract rfl rfl) ?_
    refine JL_pd rfl (det_extract rfl rfl) ?_
    refine JL_pd rfl (det_assign rfl) ?_
    refine JL_pd rfl (det_assign rfl) ?_
    refine JL_nil ?_
    refine JE_seq ?_
    refine JC_seq ?_
    refine JC_seq ?_
    refine JC_region ?_
    refine JL_pd rfl (det_move rfl) ?_
    refine JL_pd rfl (det_neq rfl rfl) ?_
    refine JL_pd rfl (det_move rfl) ?_
    -- stop: guard 2
    obtain ⟨fb, p, hp⟩ := x42
    obtain ⟨Sa, Sc, S1, hS1⟩ := x50
    dsimp only
    have hpn : p.length = feet.length := hp.1
    have FF := fit_facts F.hs.n (fun s hs => (F.hs.s s hs).1) F.ft hp
    have hif := IsFitting_j x fa fc feet (some ⟨fb, 0, none⟩) p.length p F.hs (by omega) F.ft
    rw [fitB_iff.2 FF.fit] at hif
    obtain ⟨hr1, p', hp', hl1⟩ := hS1
    have hbb : bareI p = (bare p : Nat) := bare_served hp.1 FF.fit.ok
    rw [fit_same F.hs.n (fun s hs => (F.hs.s s hs).1) F.ft hp' hp] at hl1
    have hS1l : S1.length ≤ 10 := by
      unfold risB at hr1
      rw [Bool.and_eq_true, decide_eq_true_eq, List.all_eq_true] at hr1
      have := nodup_len (hr1.2.imp fun h => by omega) (l' := (List.range 10).map fun n : Nat => (n : Int)) fun t ht => by
        have := inI_iff.1 (hr1.1 t ht)
        exact List.mem_map.2 ⟨t.toNat, List.mem_range.2 (by omega), by omega⟩
      simpa using this
    have hk1 := fun (q c d : QH) => Lack_ca x q feet S1 c d
    rw [show lackE x feet S1 = .tuple #[I (bare p : Nat), I 0] by unfold lackE; rw [if_neg (by omega), if_pos hr1, hl1]] at hk1
    have hbj := Bare_j (some ⟨fb, 0, none⟩) p.length p (by omega)
    rw [hbb] at hbj
    have hle : lack x.h.shoes feet S ≤ (bare p : Nat) := lack_le FF.fit S
    refine JL_is (d0 := 55) false rfl (by rfl) (fun g1 => ?_)
    refine JL_guard rfl rfl g1 ?_
    refine JL_pd rfl (det_move rfl) ?_
    refine JL_guard rfl rfl g1 ?_
    refine JL_pd rfl (det_neq rfl rfl) ?_
    refine JL_pd rfl (det_pick_f rfl g1 rfl) ?_
    refine JL_pd rfl (det_move rfl) ?_
    -- stop: guard 6
    refine JL_is (d0 := 59) false rfl (by rfl) (fun g2 => ?_)
    refine JL_guard rfl rfl g2 ?_
    refine JL_dt rfl (det_loadKA rfl Try.isAgg24 Try.sizeOf24 rfl rfl) ?_
    refine JL_guard rfl rfl g2 ?_
    refine JL_pd rfl (det_move rfl) ?_
    refine JL_guard rfl rfl g2 ?_
    refine JL_pd rfl (det_move rfl) ?_
    refine JL_guard rfl rfl g2 ?_
    -- stop: op 10 t63 := (call (Call (value f49) (t60 t61 t62) (24 22 22)))   <7 8 9 6 6>   116
    refine JL_step rfl rfl rfl (jo_callv rfl rfl Try.call49 rfl (hif)) fun _ => ?_
    refine JL_guard rfl rfl g2 ?_
    refine JL_pd rfl (det_not rfl) ?_
    refine JL_pd rfl (det_pick_f rfl g2 rfl) ?_
    refine JL_nil ?_
    refine JE_seq ?_
    -- stop: cond
    refine JC_cond rfl (fun k1 => ?_) (fun k1 => ?_)
    · cases k1
    refine JC_skip ?_
    refine JE_seq ?_
    refine JC_seq ?_
    refine JC_region ?_
    refine JL_dt rfl (det_loadKA rfl Try.isAgg24 Try.sizeOf24 rfl rfl) ?_
    refine JL_step rfl rfl rfl (jo_call rfl rfl Try.call19 rfl (lHouse_j x (by omega))) fun x68 => ?_
    refine JL_pd rfl (det_move rfl) ?_
    -- stop: op  3 t70 := (call (Call (value f23) (t69) (22)))   <2 1>   119
    refine JL_step rfl rfl rfl (jo_call rfl rfl Try.call23 rfl (lList_j feet fa fc (by omega))) fun ca => ?_
    refine JL_pd rfl (det_move rfl) ?_
    -- stop: op  5 t72 := (call (Call (value f23) (t71) (22)))   <4 3>   119
    refine JL_step rfl rfl rfl (jo_call rfl rfl Try.call23 rfl (lList_j S1 Sa Sc (by omega))) fun cb => ?_
    -- stop: op  6 t73 := (call (Call (value f47) (t68 t70 t72) (30 22 22)))   <1 3 5 5>   119
    refine JL_step rfl rfl rfl (jo_callv rfl rfl Try.call47 rfl (hk1 x68 ca cb)) fun _ => ?_
    refine JL_pd rfl (det_move rfl) ?_
    refine JL_pd rfl (det_extract rfl rfl) ?_
    refine JL_pd rfl (det_extract rfl rfl) ?_
    refine JL_pd rfl (det_assign rfl) ?_
    refine JL_pd rfl (det_assign rfl) ?_
    refine JL_nil ?_
    refine JE_seq ?_
    refine JC_seq ?_
    refine JC_region ?_
    refine JL_dt rfl (det_loadKA rfl Try.isAgg24 Try.sizeOf24 rfl rfl) ?_
    refine JL_step rfl rfl rfl (jo_call rfl rfl Try.call19 rfl (lHouse_j x (by omega))) fun x78 => ?_
    refine JL_pd rfl (det_move rfl) ?_
    -- stop: op  3 t80 := (call (Call (value f23) (t79) (22)))   <2 1>   120
    refine JL_step rfl rfl rfl (jo_call rfl rfl Try.call23 rfl (lList_j feet fa fc (by omega))) fun cc => ?_
    refine JL_pd rfl (det_move rfl) ?_
    -- stop: op  5 t82 := (call (Call (value f23) (t81) (22)))   <4 3>   120
    refine JL_step rfl rfl rfl (jo_call rfl rfl Try.call23 rfl (lList_j S sa sc (by omega))) fun cd => ?_
    -- stop: op  6 t83 := (call (Call (value f47) (t78 t80 t82) (30 22 22)))   <1 3 5 5>   120
    obtain ⟨m, er, hLE, hme⟩ : ∃ m er : Int, lackE x feet S = .tuple #[I m, I er] ∧ m ≤ (bare p : Nat) ∧ (er = 0 ∨ er = 2) := by
      unfold lackE
      rw [if_neg (by omega)]
      by_cases c3 : risB (fun n => inI n 0 9) S = true
      · rw [if_pos c3]; exact ⟨_, _, rfl, hle, .inl rfl⟩
      · rw [if_neg c3]; exact ⟨_, _, rfl, by omega, .inr rfl⟩
    have hk2 := fun (q c d : QH) => Lack_ca x q feet S c d
    rw [hLE] at hk2
    refine JL_step rfl rfl rfl (jo_callv rfl rfl Try.call47 rfl (hk2 x78 cc cd)) fun _ => ?_
    refine JL_pd rfl (det_move rfl) ?_
    refine JL_pd rfl (det_extract rfl rfl) ?_
    refine JL_pd rfl (det_extract rfl rfl) ?_
    refine JL_pd rfl (det_assign rfl) ?_
    refine JL_pd rfl (det_assign rfl) ?_
    refine JL_nil ?_
    refine JE_seq ?_
    refine JC_seq ?_
    refine JC_seq ?_
    refine JC_region ?_
    refine JL_pd rfl (det_move rfl) ?_
    refine JL_pd rfl (det_neq rfl rfl) ?_
    refine JL_pd rfl (det_move rfl) ?_
    -- stop: guard 2
    refine JL_is (d0 := 88) false rfl (by rfl) (fun g3 => ?_)
    refine JL_guard rfl rfl g3 ?_
    refine JL_pd rfl (det_move rfl) ?_
    refine JL_guard rfl rfl g3 ?_
    refine JL_pd rfl (det_move rfl) ?_
    refine JL_guard rfl rfl g3 ?_
    -- stop: op  5 t91 := (call (Call (value f51) (t90) (22)))   <4 2 2>   121
    refine JL_step rfl rfl rfl (jo_callv rfl rfl Try.call51 rfl (hbj)) fun _ => ?_
    refine JL_guard rfl rfl g3 ?_
    refine JL_pd rfl (det_neq rfl rfl) ?_
    refine JL_pd rfl (det_pick_f rfl g3 rfl) ?_
    refine JL_pd rfl (det_move rfl) ?_
    -- stop: guard 8
    refine JL_is (d0 := 94) false rfl (by simp) (fun g4 => ?_)
    refine JL_guard rfl rfl g4 ?_
    refine JL_pd rfl (det_move rfl) ?_
    refine JL_guard rfl rfl g4 ?_
    refine JL_pd rfl (det_neq rfl rfl) ?_
    refine JL_guard rfl rfl g4 ?_
    refine JL_pd rfl (det_move rfl) ?_
    -- stop: guard 11
    have hiw := IsFitting_j x fa fc feet wa wc ws F.hs (by omega) F.ft
    rcases hme.2 with rfl | rfl
    · refine JL_is (d0 := 97) false rfl (by rfl) (fun g5 => ?_)
      refine JL_skip rfl rfl g5 rfl ?_
      refine JL_skip rfl rfl g5 rfl ?_
      refine JL_guard rfl rfl g4 ?_
      refine JL_pd rfl (det_pick_f rfl g5 rfl) ?_
      refine JL_pd rfl (det_pick_f rfl g4 rfl) ?_
      refine JL_pd rfl (det_move rfl) ?_
      refine JL_guard rfl rfl rfl ?_
      refine JL_pd rfl (det_move rfl) ?_
      refine JL_guard rfl rfl rfl ?_
      refine JL_pd rfl (det_move rfl) ?_
      refine JL_guard rfl rfl rfl ?_
      refine JL_pd rfl (det_gtr rfl rfl) ?_
      refine JL_pd rfl (det_pick_f rfl rfl rfl) ?_
      refine JL_nil ?_
      refine JE_seq ?_
      -- stop: cond
      refine JC_cond rfl (fun k2 => ?_) (fun k2 => ?_)
      · exact absurd (of_decide_eq_true k2) (by omega)
      refine JC_skip ?_
      refine JE_seq ?_
      refine JC_seq ?_
      refine JC_region ?_
      refine JL_dt rfl (det_loadKA rfl Try.isAgg24 Try.sizeOf24 rfl rfl) ?_
      refine JL_pd rfl (det_move rfl) ?_
      refine JL_pd rfl (det_move rfl) ?_
      -- stop: op  3 t110 := (call (Call (value f49) (t107 t108 t109) (24 22 22)))   <0 1 2>   124
      refine JL_step rfl rfl rfl (jo_callv rfl rfl Try.call49 rfl (hiw)) fun _ => ?_
      refine JL_pd rfl (det_not rfl) ?_
      refine JL_pd rfl (det_move rfl) ?_
      -- stop: guard 5
      by_cases c4 : fitB x.h.shoes feet ws = true
      · have hbw := bare_served (fitB_iff.1 c4).n (fitB_iff.1 c4).ok
        have hlw := lack_le (fitB_iff.1 c4) S1
        rw [hl1] at hlw
        have hwn := (fitB_iff.1 c4).n
        have hbk := Bare_j wa wc ws (by omega)
        refine JL_is (d0 := 112) false rfl (by rw [c4]; rfl) (fun g7 => ?_)
        refine JL_guard rfl rfl g7 ?_
        refine JL_pd rfl (det_move rfl) ?_
        refine JL_guard rfl rfl g7 ?_
        -- stop: op  7 t114 := (call (Call (value f51) (t113) (22)))   <6 5 5>   124
        refine JL_step rfl rfl rfl (jo_callv rfl rfl Try.call51 rfl (hbk)) fun _ => ?_
        refine JL_guard rfl rfl g7 ?_
        refine JL_pd rfl (det_move rfl) ?_
        refine JL_guard rfl rfl g7 ?_
        refine JL_pd rfl (det_geq rfl rfl) ?_
        refine JL_pd rfl (det_pick_f rfl g7 rfl) ?_
        refine JL_pd rfl (det_move rfl) ?_
        -- stop: guard 11
        refine JL_is (d0 := 118) true rfl (by (first | rfl | exact decide_eq_true (by omega))) (fun h4 => ?_)
        refine JL_guard rfl rfl h4 ?_
        refine JL_step rfl rfl rfl (jo_callv rfl rfl Try.call17 rfl (awake_j)) fun _ => ?_
        refine JL_pd rfl (det_pick_t rfl h4 rfl) ?_
        refine JL_pd rfl (det_assign rfl) ?_
        refine JL_nil ?_
        refine JE_seq ?_
        refine JC_ret ?_
        refine JE_out (.inl rfl) () (results1 Try.results14 (res_tmp rfl)) ?_ (List.Perm.refl _) (fun _ _ => trivial)
        rfl
      · skip
        refine JL_is (d0 := 112) true rfl (by rw [show fitB x.h.shoes feet ws = false by simpa using c4]; rfl) (fun g7 => ?_)
        refine JL_skip rfl rfl g7 rfl ?_
        refine JL_skip rfl rfl g7 rfl ?_
        refine JL_skip rfl rfl g7 rfl ?_
        refine JL_skip rfl rfl g7 rfl ?_
        refine JL_pd rfl (det_pick_t rfl g7 rfl) ?_
        refine JL_pd rfl (det_move rfl) ?_
        refine JL_guard rfl rfl rfl ?_
        refine JL_step rfl rfl rfl (jo_callv rfl rfl Try.call17 rfl (awake_j)) fun _ => ?_
        refine JL_pd rfl (det_pick_t rfl rfl rfl) ?_
        refine JL_pd rfl (det_assign rfl) ?_
        refine JL_nil ?_
        refine JE_seq ?_
        refine JC_ret ?_
        -- stop: out
        refine JE_out (.inl rfl) () (results1 Try.results14 (res_tmp rfl)) ?_ (List.Perm.refl _) (fun _ _ => trivial)
        rfl
    · skip
      refine JL_is (d0 := 97) true rfl (by rfl) (fun g5 => ?_)
      refine JL_guard rfl rfl g5 ?_
      refine JL_pd rfl (det_move rfl) ?_
      refine JL_guard rfl rfl g5 ?_
      refine JL_pd rfl (det_neq rfl rfl) ?_
      refine JL_guard rfl rfl g4 ?_
      refine JL_pd rfl (det_pick_t rfl g5 rfl) ?_
      refine JL_pd rfl (det_pick_f rfl g4 rfl) ?_
      refine JL_pd rfl (det_move rfl) ?_
      -- stop: guard 16
      refine JL_is (d0 := 102) false rfl (by rfl) (fun g6 => ?_)
      refine JL_guard rfl rfl g6 ?_
      refine JL_pd rfl (det_move rfl) ?_
      refine JL_guard rfl rfl g6 ?_
      refine JL_pd rfl (det_move rfl) ?_
      refine JL_guard rfl rfl g6 ?_
      refine JL_pd rfl (det_gtr rfl rfl) ?_
      refine JL_pd rfl (det_pick_f rfl g6 rfl) ?_
      refine JL_nil ?_
      refine JE_seq ?_
      -- stop: cond
      refine JC_cond rfl (fun k2 => ?_) (fun k2 => ?_)
      · exact absurd (of_decide_eq_true k2) (by omega)
      refine JC_skip ?_
      refine JE_seq ?_
      refine JC_seq ?_
      refine JC_region ?_
      refine JL_dt rfl (det_loadKA rfl Try.isAgg24 Try.sizeOf24 rfl rfl) ?_
      refine JL_pd rfl (det_move rfl) ?_
      refine JL_pd rfl (det_move rfl) ?_
      -- stop: op  3 t110 := (call (Call (value f49) (t107 t108 t109) (24 22 22)))   <0 1 2>   124
      refine JL_step rfl rfl rfl (jo_callv rfl rfl Try.call49 rfl (hiw)) fun _ => ?_
      refine JL_pd rfl (det_not rfl) ?_
      refine JL_pd rfl (det_move rfl) ?_
      -- stop: guard 5
      by_cases c4 : fitB x.h.shoes feet ws = true
      · have hbw := bare_served (fitB_iff.1 c4).n (fitB_iff.1 c4).ok
        have hlw := lack_le (fitB_iff.1 c4) S1
        rw [hl1] at hlw
        have hwn := (fitB_iff.1 c4).n
        have hbk := Bare_j wa wc ws (by omega)
        refine JL_is (d0 := 112) false rfl (by rw [c4]; rfl) (fun g7 => ?_)
        refine JL_guard rfl rfl g7 ?_
        refine JL_pd rfl (det_move rfl) ?_
        refine JL_guard rfl rfl g7 ?_
        -- stop: op  7 t114 := (call (Call (value f51) (t113) (22)))   <6 5 5>   124
        refine JL_step rfl rfl rfl (jo_callv rfl rfl Try.call51 rfl (hbk)) fun _ => ?_
        refine JL_guard rfl rfl g7 ?_
        refine JL_pd rfl (det_move rfl) ?_
        refine JL_guard rfl rfl g7 ?_
        refine JL_pd rfl (det_geq rfl rfl) ?_
        refine JL_pd rfl (det_pick_f rfl g7 rfl) ?_
        refine JL_pd rfl (det_move rfl) ?_
        -- stop: guard 11
        refine JL_is (d0 := 118) true rfl (by (first | rfl | exact decide_eq_true (by omega))) (fun h5 => ?_)
        refine JL_guard rfl rfl h5 ?_
        refine JL_step rfl rfl rfl (jo_callv rfl rfl Try.call17 rfl (awake_j)) fun _ => ?_
        refine JL_pd rfl (det_pick_t rfl h5 rfl) ?_
        refine JL_pd rfl (det_assign rfl) ?_
        refine JL_nil ?_
        refine JE_seq ?_
        refine JC_ret ?_
        refine JE_out (.inl rfl) () (results1 Try.results14 (res_tmp rfl)) ?_ (List.Perm.refl _) (fun _ _ => trivial)
        rfl
      · skip
        refine JL_is (d0 := 112) true rfl (by rw [show fitB x.h.shoes feet ws = false by simpa using c4]; rfl) (fun g7 => ?_)
        refine JL_skip rfl rfl g7 rfl ?_
        refine JL_skip rfl rfl g7 rfl ?_
        refine JL_skip rfl rfl g7 rfl ?_
        refine JL_skip rfl rfl g7 rfl ?_
        refine JL_pd rfl (det_pick_t rfl g7 rfl) ?_
        refine JL_pd rfl (det_move rfl) ?_
        refine JL_guard rfl rfl rfl ?_
        refine JL_step rfl rfl rfl (jo_callv rfl rfl Try.call17 rfl (awake_j)) fun _ => ?_
        refine JL_pd rfl (det_pick_t rfl rfl rfl) ?_
        refine JL_pd rfl (det_assign rfl) ?_
        refine JL_nil ?_
        refine JE_seq ?_
        refine JC_ret ?_
        -- stop: out
        refine JE_out (.inl rfl) () (results1 Try.results14 (res_tmp rfl)) ?_ (List.Perm.refl _) (fun _ _ => trivial)
        rfl
end Go.Proofs.Ytkmaafnbefpdjaa
