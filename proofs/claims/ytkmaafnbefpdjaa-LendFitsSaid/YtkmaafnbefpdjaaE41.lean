/- The statements about lend: LendFits. -/
import Derived.Test.YtkmaafnbefpdjaaE40p
set_option linter.unusedSimpArgs false
set_option linter.unusedVariables false
namespace Go.Proofs.Ytkmaafnbefpdjaa
open Go.RowKit Go.Shelf

theorem sizes_le {S1 : List Int} (hr1 : risB (fun n => inI n 0 9) S1 = true) : S1.length ≤ 10 := by
  unfold risB at hr1
  rw [Bool.and_eq_true, decide_eq_true_eq, List.all_eq_true] at hr1
  have := nodup_len (hr1.2.imp fun h => by omega) (l' := (List.range 10).map fun n : Nat => (n : Int)) fun t ht => by
    have := inI_iff.1 (hr1.1 t ht)
    exact List.mem_map.2 ⟨t.toNat, List.mem_range.2 (by omega), by omega⟩
  simpa using this
set_option maxRecDepth 100000 in
set_option maxHeartbeats 4000000 in
theorem LendFits_j (x : Hx) (fa : Option Addr) (fc : Nat) (feet : List Int) (sa : Option Addr) (sc : Nat) (S : List Int) : Cv Try.prog 13 [.agg #[I x.h.lanes, .slice x.a x.h.shoes.length x.c], .slice fa feet.length fc, .slice sa S.length sc] (KAnd (KHx x) (KAnd (KSl fa feet.length fc encI feet) (KSl sa S.length sc encI S))) (.bool true) := by
  refine Cx_of Try.func13 rfl Try.ntmps13 rfl fun w0 M0 => ?_
  refine JC_seq ?_
  refine JC_region ?_
  refine JL_step rfl rfl rfl (jo_box rfl rfl) fun b3 => ?_
  refine JL_pd rfl (det_assign rfl) ?_
  refine JL_nil ?_
  refine JE_seq ?_
  refine JC_seq ?_
  refine JC_seq ?_
  refine JC_region ?_
  refine JL_dt rfl (det_loadKA rfl Try.isAgg24 Try.sizeOf24 rfl rfl) ?_
  refine JL_step rfl rfl rfl (jo_callv rfl rfl Try.call16 rfl (Thin_n x)) fun _ => ?_
  refine JL_pd rfl (det_not rfl) ?_
  refine JL_pd rfl (det_move rfl) ?_
  -- stop: guard 3
  refine JL_join1 9 26 (.bool (!thinB x.h [] || decide ((60 : Int) < (feet.length : Int)) || decide ((12 : Int) < (S.length : Int)))) (fun hj => ?_) ?_
  · refine JL_split (d0 := 17) rfl (fun q1 => ?_) (fun q1 => ?_)
    · refine JL_skip rfl rfl q1 rfl ?_
      refine JL_skip rfl rfl q1 rfl ?_
      refine JL_skip rfl rfl q1 rfl ?_
      refine JL_pd rfl (det_pick_t rfl q1 rfl) ?_
      refine JL_pd rfl (det_move rfl) ?_
      refine JL_skip rfl rfl rfl rfl ?_
      refine JL_skip rfl rfl rfl rfl ?_
      refine JL_skip rfl rfl rfl rfl ?_
      refine JL_pd rfl (det_pick_t rfl rfl rfl) ?_
      exact hj (by kernel_rfl) (stsub_consB rfl (by clear hj; first | rfl | (simp only [q1, Bool.and_true, Bool.true_and, Bool.false_and, Bool.and_false, Bool.or_true, Bool.true_or, Bool.or_false, Bool.false_or, Bool.not_true, Bool.not_false]; done) | (simp [q1]; done) | (simp at q1; done) | (simp [q1] <;> omega) | (exfalso; simp at q1; omega)) stsub_nil)
    · refine JL_guard rfl rfl q1 ?_
      refine JL_pd rfl (det_move rfl) ?_
      refine JL_guard rfl rfl q1 ?_
      refine JL_pd rfl (det_len rfl Try.runUnderlying22) ?_
      refine JL_guard rfl rfl q1 ?_
      refine JL_pd rfl (det_gtr rfl rfl) ?_
      refine JL_pd rfl (det_pick_f rfl q1 rfl) ?_
      refine JL_pd rfl (det_move rfl) ?_
      refine JL_split (d0 := 22) rfl (fun q2 => ?_) (fun q2 => ?_)
      · refine JL_skip rfl rfl q2 rfl ?_
        refine JL_skip rfl rfl q2 rfl ?_
        refine JL_skip rfl rfl q2 rfl ?_
        refine JL_pd rfl (det_pick_t rfl q2 rfl) ?_
        exact hj (by kernel_rfl) (stsub_consB rfl (by clear hj; first | rfl | (simp only [q1, q2, Bool.and_true, Bool.true_and, Bool.false_and, Bool.and_false, Bool.or_true, Bool.true_or, Bool.or_false, Bool.false_or, Bool.not_true, Bool.not_false]; done) | (simp [q1, q2]; done) | (simp at q1; done) | (simp at q2; done) | (simp [q1, q2] <;> omega) | (exfalso; simp at q1 q2; omega) | (simp [q2] at q1; done) | (simp [q1] at q2; done)) stsub_nil)
      · refine JL_guard rfl rfl q2 ?_
        refine JL_pd rfl (det_move rfl) ?_
        refine JL_guard rfl rfl q2 ?_
        refine JL_pd rfl (det_len rfl Try.runUnderlying22) ?_
        refine JL_guard rfl rfl q2 ?_
        refine JL_pd rfl (det_gtr rfl rfl) ?_
        refine JL_pd rfl (det_pick_f rfl q2 rfl) ?_
        exact hj (by kernel_rfl) (stsub_consB rfl (by clear hj; first | rfl | (simp only [q1, q2, Bool.and_true, Bool.true_and, Bool.false_and, Bool.and_false, Bool.or_true, Bool.true_or, Bool.or_false, Bool.false_or, Bool.not_true, Bool.not_false]; done) | (simp [q1, q2]; done) | (simp at q1; done) | (simp at q2; done) | (simp [q1, q2] <;> omega) | (exfalso; simp at q1 q2; omega) | (simp [q2] at q1; done) | (simp [q1] at q2; done)) stsub_nil)
  refine JL_nil ?_
  refine JE_seq ?_
  -- stop: cond
  refine JC_cond rfl (fun h1 => ?_) (fun h1 => ?_)
  · refine JC_seq ?_
    refine JC_region ?_
    refine JL_step rfl rfl rfl (jo_callv rfl rfl Try.call17 rfl (awake_j)) fun _ => ?_
    refine JL_pd rfl (det_assign rfl) ?_
    refine JL_nil ?_
    refine JE_seq ?_
    refine JC_ret ?_
    refine JE_seq_ret ?_
    -- stop: out
    refine JE_out (.inl rfl) () (results1 Try.results13 (res_tmp rfl)) rfl (List.Perm.refl _) (fun _ _ => trivial)
  · simp only [Bool.or_eq_false_iff, Bool.not_eq_false', decide_eq_true_eq, decide_eq_false_iff_not] at h1
    obtain ⟨⟨h1, h2⟩, h3⟩ := h1
    obtain ⟨t1, -, -⟩ := thin_lens h1
    by_cases c0 : shodE x.h feet = 0
    · have F := vfeet_of c0
      have hfn := F.n
      have hn := F.hs.n
      obtain ⟨m, er, hLE, hme⟩ : ∃ m er : Int, lackE x feet S = .tuple #[I m, I er] ∧ ((risB (fun n => inI n 0 9) S = true ∧ er = 0 ∧ m = lack x.h.shoes feet S) ∨ (risB (fun n => inI n 0 9) S = false ∧ er = 2 ∧ m = 0)) := by
        unfold lackE
        rw [if_neg (by omega)]
        by_cases c3 : risB (fun n => inI n 0 9) S = true
        · rw [if_pos c3]; exact ⟨_, _, rfl, .inl ⟨c3, rfl, rfl⟩⟩
        · rw [if_neg c3]; exact ⟨_, _, rfl, .inr ⟨by simpa using c3, rfl, rfl⟩⟩
      have hk2 := fun (q c d : QH) => Lack_ca x q feet S c d
      rw [hLE] at hk2
      refine JC_skip ?_
      refine JE_seq ?_
      refine JC_seq ?_
      refine JC_region ?_
      refine JL_dt rfl (det_loadKA rfl Try.isAgg24 Try.sizeOf24 rfl rfl) ?_
      refine JL_step rfl rfl rfl (jo_call rfl rfl Try.call19 rfl (lHouse_j x (by omega))) fun x30 => ?_
      refine JL_pd rfl (det_move rfl) ?_
      -- stop: op  3 t32 := (call (Call (value f23) (t31) (22)))   <2 1>   163
      refine JL_step rfl rfl rfl (jo_call rfl rfl Try.call23 rfl (lList_j feet fa fc (by omega))) fun ca => ?_
      -- stop: op  4 t33 := (call (Call (value f46) (t30 t32) (30 22)))   <1 3 3>   163
      refine JL_step rfl rfl rfl (jo_call rfl rfl Try.call46 rfl (Fit_c x x30 feet ca.1 ca.2 c0)) fun cp => ?_
      refine JL_pd rfl (det_move rfl) ?_
      refine JL_pd rfl (det_extract rfl rfl) ?_
      refine JL_pd rfl (det_extract rfl rfl) ?_
      refine JL_pd rfl (det_assign rfl) ?_
      refine JL_pd rfl (det_assign rfl) ?_
      refine JL_nil ?_
      refine JE_seq ?_
      refine JC_seq ?_
      refine JC_region ?_
      refine JL_dt rfl (det_loadKA rfl Try.isAgg24 Try.sizeOf24 rfl rfl) ?_
      refine JL_step rfl rfl rfl (jo_call rfl rfl Try.call19 rfl (lHouse_j x (by omega))) fun x38 => ?_
      refine JL_pd rfl (det_move rfl) ?_
      -- stop: op  3 t40 := (call (Call (value f23) (t39) (22)))   <2 1>   164
      refine JL_step rfl rfl rfl (jo_call rfl rfl Try.call23 rfl (lList_j feet fa fc (by omega))) fun cb => ?_
      refine JL_pd rfl (det_move rfl) ?_
      -- stop: op  5 t42 := (call (Call (value f23) (t41) (22)))   <4 3>   164
      refine JL_step rfl rfl rfl (jo_call rfl rfl Try.call23 rfl (lList_j S sa sc (by omega))) fun cc => ?_
      -- stop: op  6 t43 := (call (Call (value f47) (t38 t40 t42) (30 22 22)))   <1 3 5 5>   164
      refine JL_step rfl rfl rfl (jo_callv rfl rfl Try.call47 rfl (hk2 x38 cb cc)) fun _ => ?_
      refine JL_pd rfl (det_move rfl) ?_
      refine JL_pd rfl (det_extract rfl rfl) ?_
      refine JL_pd rfl (det_extract rfl rfl) ?_
      refine JL_pd rfl (det_assign rfl) ?_
      refine JL_pd rfl (det_assign rfl) ?_
      refine JL_nil ?_
      refine JE_seq ?_
      refine JC_seq ?_
      refine JC_region ?_
      refine JL_dt rfl (det_loadKA rfl Try.isAgg24 Try.sizeOf24 rfl rfl) ?_
      refine JL_step rfl rfl rfl (jo_call rfl rfl Try.call19 rfl (lHouse_j x (by omega))) fun x48 => ?_
      refine JL_pd rfl (det_move rfl) ?_
      -- stop: op  3 t50 := (call (Call (value f23) (t49) (22)))   <2 1>   165
      refine JL_step rfl rfl rfl (jo_call rfl rfl Try.call23 rfl (lList_j feet fa fc (by omega))) fun cd => ?_
      -- stop: op  4 t51 := (call (Call (value f48) (t48 t50) (30 22)))   <1 3 3>   165
      refine JL_step rfl rfl rfl (jo_call rfl rfl Try.call48 rfl (Sizes_c x x48 feet cd.1 cd.2 c0)) fun cs => ?_
      refine JL_pd rfl (det_move rfl) ?_
      refine JL_pd rfl (det_extract rfl rfl) ?_
      refine JL_pd rfl (det_extract rfl rfl) ?_
      refine JL_pd rfl (det_assign rfl) ?_
      refine JL_pd rfl (det_assign rfl) ?_
      refine JL_nil ?_
      refine JE_seq ?_
      refine JC_seq ?_
      refine JC_region ?_
      refine JL_dt rfl (det_loadKA rfl Try.isAgg24 Try.sizeOf24 rfl rfl) ?_
      refine JL_pd rfl (det_move rfl) ?_
      refine JL_step rfl rfl rfl (jo_callv rfl rfl Try.call35 rfl (shod_jl x fa fc feet)) fun _ => ?_
      refine JL_pd rfl (det_assign rfl) ?_
      refine JL_nil ?_
      refine JE_seq ?_
      refine JC_seq ?_
      refine JC_seq ?_
      refine JC_region ?_
      refine JL_pd rfl (det_move rfl) ?_
      refine JL_pd rfl (det_neq rfl rfl) ?_
      refine JL_nil ?_
      refine JE_seq ?_
      -- stop: cond
      obtain ⟨fb, p, hp⟩ := cp
      obtain ⟨Sa, Sc, S1, hS1⟩ := cs
      dsimp only
      have hpn : p.length = feet.length := hp.1
      have FF := fit_facts F.hs.n (fun s hs => (F.hs.s s hs).1) F.ft hp
      have hif := IsFitting_j x fa fc feet (some ⟨fb, 0, none⟩) p.length p F.hs (by omega) F.ft
      rw [fitB_iff.2 FF.fit] at hif
      obtain ⟨hr1, p', hp', hl1⟩ := hS1
      have hbb : bareI p = (bare p : Nat) := bare_served hp.1 FF.fit.ok
      rw [fit_same F.hs.n (fun s hs => (F.hs.s s hs).1) F.ft hp' hp] at hl1
      have hS1l := sizes_le hr1
      have hk1 := rLack_j x fa fc feet Sa Sc S1 F.hs (by omega)
      rw [hl1] at hk1
      have hbj := Bare_j (some ⟨fb, 0, none⟩) p.length p (by omega)
      rw [hbb] at hbj
      have hri := Rising_j Sa Sc S1 9
      rw [hr1] at hri
      have hbst := (Barest_j x fa fc feet F.hs (by omega) F.ft feet.length [] none 0 (by simp)).mono (pre' := KAnd (KHx x) (KSl fa feet.length fc encI feet)) (fun w hw => ⟨hw.1, hw.2, KSl_none w⟩) (fun _ _ h => h)
      rw [barest_eq F.hs.n (fun s hs => (F.hs.s s hs).1) F.ft FF] at hbst
      refine JC_ifn rfl (fun k1 => ?_) (fun k1 => ?_)
      · exact absurd c0 k1
      refine JC_skip ?_
      refine JE_seq ?_
      refine JC_seq ?_
      refine JC_seq ?_
      refine JC_draw [] (by kernel_rfl) ?_
      refine JA_pd (i := 0) rfl (by kernel_rfl) rfl rfl (det_move rfl) ?_
      refine JA_pd (i := 1) rfl (by kernel_rfl) rfl rfl (det_neq rfl rfl) ?_
      refine JA_pd (i := 2) rfl (by kernel_rfl) rfl rfl (det_move rfl) ?_
      -- stop: guard 2
      have hrS := Rising_j sa sc S 9
      have hkS := rLack_j x fa fc feet sa sc S F.hs (by omega)
      refine JA_is (d0 := 89) false rfl (by rfl) (fun g1 => ?_)
      refine JA_gpd (i := 3) rfl (by kernel_rfl) rfl rfl rfl rfl g1 (det_move rfl) ?_
      refine JA_gpd (i := 4) rfl (by kernel_rfl) rfl rfl rfl rfl g1 (det_neq rfl rfl) ?_
      refine JA_pd (i := 5) rfl (by kernel_rfl) rfl rfl (det_pick_f rfl g1 rfl) ?_
      refine JA_pd (i := 6) rfl (by kernel_rfl) rfl rfl (det_move rfl) ?_
      -- stop: guard 6
      refine JA_is (d0 := 93) false rfl (by rfl) (fun g2 => ?_)
      refine JA_gdt (i := 7) rfl (by kernel_rfl) (by kernel_rfl) rfl rfl rfl rfl g2 (det_loadKA rfl Try.isAgg24 Try.sizeOf24 rfl rfl) ?_
      refine JA_gpd (i := 8) rfl (by kernel_rfl) rfl rfl rfl rfl g2 (det_move rfl) ?_
      refine JA_gpd (i := 9) rfl (by kernel_rfl) rfl rfl rfl rfl g2 (det_move rfl) ?_
      -- stop: op 10 t97 := (call (Call (value f49) (t94 t95 t96) (24 22 22)))   <7 8 9 6 6>   GUARD (some (Prod 6 false))   170
      refine JA_gone (i := 10) (by kernel_rfl) rfl rfl rfl g2 rfl (jo_callv rfl rfl Try.call49 rfl (hif)) (fun _ => ⟨hsub_refl, fun _ h => h⟩) fun _ => ?_
      refine JA_gpd (i := 11) rfl (by kernel_rfl) rfl rfl rfl rfl g2 (det_not rfl) ?_
      refine JA_pd (i := 12) rfl (by kernel_rfl) rfl rfl (det_pick_f rfl g2 rfl) ?_
      refine JA_pd (i := 13) rfl (by kernel_rfl) rfl rfl (det_move rfl) ?_
      -- stop: guard 13
      refine JA_is (d0 := 100) false rfl (by rfl) (fun g3 => ?_)
      refine JA_gpd (i := 14) rfl (by kernel_rfl) rfl rfl rfl rfl g3 (det_move rfl) ?_
      -- stop: op 15 t102 := (call (Call (value f44) (t101 9) (22 3)))   <14 13 13>   GUARD (some (Prod 13 false))   170
      refine JA_gone (i := 15) (by kernel_rfl) rfl rfl rfl g3 rfl (jo_callv rfl rfl Try.call44 rfl (hri)) (fun _ => ⟨hsub_refl, fun _ h => h⟩) fun _ => ?_
      refine JA_gpd (i := 16) rfl (by kernel_rfl) rfl rfl rfl rfl g3 (det_not rfl) ?_
      refine JA_pd (i := 17) rfl (by kernel_rfl) rfl rfl (det_pick_f rfl g3 rfl) ?_
      refine JA_pd (i := 18) rfl (by kernel_rfl) rfl rfl (det_move rfl) ?_
      -- stop: guard 18
      refine JA_is (d0 := 105) false rfl (by rfl) (fun g4 => ?_)
      refine JA_gdt (i := 19) rfl (by kernel_rfl) (by kernel_rfl) rfl rfl rfl rfl g4 (det_loadKA rfl Try.isAgg24 Try.sizeOf24 rfl rfl) ?_
      refine JA_gpd (i := 20) rfl (by kernel_rfl) rfl rfl rfl rfl g4 (det_move rfl) ?_
      refine JA_gpd (i := 21) rfl (by kernel_rfl) rfl rfl rfl rfl g4 (det_move rfl) ?_
      refine JA_gpd (i := 23) rfl (by kernel_rfl) rfl rfl rfl rfl g4 (det_move rfl) ?_
      -- stop: op 22 t109 := (call (Call (value f50) (t106 t107 t108) (24 22 22)))   <19 20 21 18 18>   GUARD (some (Prod 18 false))   170
      refine JA_gone (i := 22) (by kernel_rfl) rfl rfl rfl g4 rfl (jo_callv rfl rfl Try.call50 rfl (hk1)) (fun _ => ⟨hsub_refl, fun _ h => h⟩) fun _ => ?_
      -- stop: op 24 t111 := (call (Call (value f51) (t110) (22)))   <23 22 18>   GUARD (some (Prod 18 false))   170
      refine JA_gone (i := 24) (by kernel_rfl) rfl rfl rfl g4 rfl (jo_callv rfl rfl Try.call51 rfl (hbj)) (fun _ => ⟨hsub_refl, fun _ h => h⟩) fun _ => ?_
      refine JA_gpd (i := 25) rfl (by kernel_rfl) rfl rfl rfl rfl g4 (det_neq rfl rfl) ?_
      refine JA_pd (i := 26) rfl (by kernel_rfl) rfl rfl (det_pick_f rfl g4 rfl) ?_
      refine JA_pd (i := 27) rfl (by kernel_rfl) rfl rfl (det_move rfl) ?_
      -- stop: guard 27
      refine JA_is (d0 := 114) false rfl (by simp) (fun g5 => ?_)
      refine JA_gpd (i := 28) rfl (by kernel_rfl) rfl rfl rfl rfl g5 (det_move rfl) ?_
      refine JA_gpd (i := 29) rfl (by kernel_rfl) rfl rfl rfl rfl g5 (det_len rfl Try.runUnderlying22) ?_
      refine JA_gpd (i := 30) rfl (by kernel_rfl) rfl rfl rfl rfl g5 (det_leq rfl rfl) ?_
      refine JA_gpd (i := 31) rfl (by kernel_rfl) rfl rfl rfl rfl g5 (det_move rfl) ?_
      -- stop: guard 31
      refine JA_split (d0 := 118) rfl (fun g6 => ?_) (fun g6 => ?_)
      · refine JA_gpd (i := 32) rfl (by kernel_rfl) rfl rfl rfl rfl g6 (det_move rfl) ?_
        refine JA_gdt (i := 34) rfl (by kernel_rfl) (by kernel_rfl) rfl rfl rfl rfl g6 (det_loadKA rfl Try.isAgg24 Try.sizeOf24 rfl rfl) ?_
        refine JA_gpd (i := 35) rfl (by kernel_rfl) rfl rfl rfl rfl g6 (det_move rfl) ?_
        -- stop: op 33 t120 := (call (Call (value f51) (t119) (22)))   <32 31 31>   GUARD (some (Prod 31 true))   170
        refine JA_gone (i := 33) (by kernel_rfl) rfl rfl rfl g6 rfl (jo_callv rfl rfl Try.call51 rfl (hbj)) (fun _ => ⟨hsub_refl, fun _ h => h⟩) fun _ => ?_
        -- stop: op 36 t123 := (call (Call (value f52) (t121 t122 (slice none 0 0)) (24 22 22)))   <34 35 33 31>   GUARD (some (Prod 31 true))   170
        refine JA_gone (i := 36) (by kernel_rfl) rfl rfl rfl g6 rfl (jo_callv rfl rfl Try.call52 rfl (hbst)) (fun _ => ⟨hsub_refl, fun _ h => h⟩) fun _ => ?_
        refine JA_gpd (i := 37) rfl (by kernel_rfl) rfl rfl rfl rfl g6 (det_neq rfl rfl) ?_
        refine JA_gpd (i := 38) rfl (by kernel_rfl) rfl rfl rfl rfl g5 (det_pick_t rfl g6 rfl) ?_
        refine JA_pd (i := 39) rfl (by kernel_rfl) rfl rfl (det_pick_f rfl g5 rfl) ?_
        refine JA_done (by kernel_rfl) ?_
        refine JE_seq ?_
        -- stop: cond
        refine JC_cond rfl (fun k2 => ?_) (fun k2 => ?_)
        · exact absurd k2 (by simp)
        refine JC_skip ?_
        refine JE_seq ?_
        refine JC_seq ?_
        refine JC_seq ?_
        refine JC_region ?_
        refine JL_pd rfl (det_move rfl) ?_
        -- stop: op  1 t128 := (call (Call (value f44) (t127 9) (22 3)))   <0>   173
        refine JL_step rfl rfl rfl (jo_callv rfl rfl Try.call44 rfl (hrS)) fun _ => ?_
        refine JL_pd rfl (det_not rfl) ?_
        refine JL_nil ?_
        refine JE_seq ?_
        -- stop: cond
        refine JC_cond rfl (fun k3 => ?_) (fun k3 => ?_)
        · rcases hme with ⟨c3, _, _⟩ | ⟨c3, rfl, rfl⟩
          · rw [c3] at k3; cases k3
          · refine JC_seq ?_
            refine JC_region ?_
            refine JL_pd rfl (det_move rfl) ?_
            refine JL_pd rfl (det_eql rfl rfl) ?_
            refine JL_pd rfl (det_move rfl) ?_
            -- stop: guard 2
            refine JL_is (d0 := 132) true rfl (by rfl) (fun h3 => ?_)
            refine JL_guard rfl rfl h3 ?_
            refine JL_pd rfl (det_move rfl) ?_
            refine JL_guard rfl rfl h3 ?_
            refine JL_pd rfl (det_eql rfl rfl) ?_
            refine JL_pd rfl (det_pick_t rfl h3 rfl) ?_
            refine JL_pd rfl (det_move rfl) ?_
            refine JL_is (d0 := 136) true rfl (by rfl) (fun h4 => ?_)
            refine JL_guard rfl rfl h4 ?_
            refine JL_step rfl rfl rfl (jo_callv rfl rfl Try.call17 rfl (awake_j)) fun _ => ?_
            refine JL_pd rfl (det_pick_t rfl h4 rfl) ?_
            refine JL_pd rfl (det_assign rfl) ?_
            refine JL_nil ?_
            refine JE_seq ?_
            refine JC_ret ?_
            refine JE_seq_ret ?_
            refine JE_out (.inl rfl) () (results1 Try.results13 (res_tmp rfl)) ?_ (List.Perm.refl _) (fun _ _ => trivial)
            rfl
        · rcases hme with ⟨c3, rfl, rfl⟩ | ⟨c3, _, _⟩
          · refine JC_skip ?_
            refine JE_seq ?_
            refine JC_seq ?_
            refine JC_region ?_
            refine JL_pd rfl (det_move rfl) ?_
            refine JL_pd rfl (det_eql rfl rfl) ?_
            refine JL_pd rfl (det_move rfl) ?_
            -- stop: guard 2
            refine JL_is (d0 := 141) true rfl (by (first | rfl | simp)) (fun h5 => ?_)
            refine JL_guard rfl rfl h5 ?_
            refine JL_pd rfl (det_move rfl) ?_
            refine JL_guard rfl rfl h5 ?_
            refine JL_dt rfl (det_loadKA rfl Try.isAgg24 Try.sizeOf24 rfl rfl) ?_
            refine JL_guard rfl rfl h5 ?_
            refine JL_pd rfl (det_move rfl) ?_
            refine JL_guard rfl rfl h5 ?_
            refine JL_pd rfl (det_move rfl) ?_
            refine JL_guard rfl rfl h5 ?_
            refine JL_step rfl rfl rfl (jo_callv rfl rfl Try.call50 rfl (hkS)) fun _ => ?_
            refine JL_guard rfl rfl h5 ?_
            refine JL_pd rfl (det_eql rfl rfl) ?_
            refine JL_pd rfl (det_pick_t rfl h5 rfl) ?_
            refine JL_pd rfl (det_move rfl) ?_
            refine JL_is (d0 := 149) true rfl (by (first | rfl | simp)) (fun h6 => ?_)
            refine JL_guard rfl rfl h6 ?_
            refine JL_step rfl rfl rfl (jo_callv rfl rfl Try.call17 rfl (awake_j)) fun _ => ?_
            refine JL_pd rfl (det_pick_t rfl h6 rfl) ?_
            refine JL_pd rfl (det_assign rfl) ?_
            refine JL_nil ?_
            refine JE_seq ?_
            refine JC_ret ?_
            refine JE_out (.inl rfl) () (results1 Try.results13 (res_tmp rfl)) ?_ (List.Perm.refl _) (fun _ _ => trivial)
            rfl
          · rw [c3] at k3; cases k3
      · refine JA_skip (i := 32) rfl (by kernel_rfl) rfl rfl rfl rfl g6 ?_
        refine JA_skip (i := 33) rfl (by kernel_rfl) rfl rfl rfl rfl g6 ?_
        refine JA_skip (i := 34) rfl (by kernel_rfl) rfl rfl rfl rfl g6 ?_
        refine JA_skip (i := 35) rfl (by kernel_rfl) rfl rfl rfl rfl g6 ?_
        refine JA_skip (i := 36) rfl (by kernel_rfl) rfl rfl rfl rfl g6 ?_
        refine JA_skip (i := 37) rfl (by kernel_rfl) rfl rfl rfl rfl g6 ?_
        refine JA_gpd (i := 38) rfl (by kernel_rfl) rfl rfl rfl rfl g5 (det_pick_f rfl g6 rfl) ?_
        refine JA_pd (i := 39) rfl (by kernel_rfl) rfl rfl (det_pick_f rfl g5 rfl) ?_
        refine JA_done (by kernel_rfl) ?_
        refine JE_seq ?_
        refine JC_condF rfl rfl ?_
        refine JC_skip ?_
        refine JE_seq ?_
        refine JC_seq ?_
        refine JC_seq ?_
        refine JC_region ?_
        refine JL_pd rfl (det_move rfl) ?_
        -- stop: op  1 t128 := (call (Call (value f44) (t127 9) (22 3)))   <0>   173
        refine JL_step rfl rfl rfl (jo_callv rfl rfl Try.call44 rfl (hrS)) fun _ => ?_
        refine JL_pd rfl (det_not rfl) ?_
        refine JL_nil ?_
        refine JE_seq ?_
        -- stop: cond
        refine JC_cond rfl (fun k3 => ?_) (fun k3 => ?_)
        · rcases hme with ⟨c3, _, _⟩ | ⟨c3, rfl, rfl⟩
          · rw [c3] at k3; cases k3
          · refine JC_seq ?_
            refine JC_region ?_
            refine JL_pd rfl (det_move rfl) ?_
            refine JL_pd rfl (det_eql rfl rfl) ?_
            refine JL_pd rfl (det_move rfl) ?_
            -- stop: guard 2
            refine JL_is (d0 := 132) true rfl (by rfl) (fun h7 => ?_)
            refine JL_guard rfl rfl h7 ?_
            refine JL_pd rfl (det_move rfl) ?_
            refine JL_guard rfl rfl h7 ?_
            refine JL_pd rfl (det_eql rfl rfl) ?_
            refine JL_pd rfl (det_pick_t rfl h7 rfl) ?_
            refine JL_pd rfl (det_move rfl) ?_
            refine JL_is (d0 := 136) true rfl (by rfl) (fun h8 => ?_)
            refine JL_guard rfl rfl h8 ?_
            refine JL_step rfl rfl rfl (jo_callv rfl rfl Try.call17 rfl (awake_j)) fun _ => ?_
            refine JL_pd rfl (det_pick_t rfl h8 rfl) ?_
            refine JL_pd rfl (det_assign rfl) ?_
            refine JL_nil ?_
            refine JE_seq ?_
            refine JC_ret ?_
            refine JE_seq_ret ?_
            refine JE_out (.inl rfl) () (results1 Try.results13 (res_tmp rfl)) ?_ (List.Perm.refl _) (fun _ _ => trivial)
            rfl
        · rcases hme with ⟨c3, rfl, rfl⟩ | ⟨c3, _, _⟩
          · refine JC_skip ?_
            refine JE_seq ?_
            refine JC_seq ?_
            refine JC_region ?_
            refine JL_pd rfl (det_move rfl) ?_
            refine JL_pd rfl (det_eql rfl rfl) ?_
            refine JL_pd rfl (det_move rfl) ?_
            -- stop: guard 2
            refine JL_is (d0 := 141) true rfl (by (first | rfl | simp)) (fun h9 => ?_)
            refine JL_guard rfl rfl h9 ?_
            refine JL_pd rfl (det_move rfl) ?_
            refine JL_guard rfl rfl h9 ?_
            refine JL_dt rfl (det_loadKA rfl Try.isAgg24 Try.sizeOf24 rfl rfl) ?_
            refine JL_guard rfl rfl h9 ?_
            refine JL_pd rfl (det_move rfl) ?_
            refine JL_guard rfl rfl h9 ?_
            refine JL_pd rfl (det_move rfl) ?_
            refine JL_guard rfl rfl h9 ?_
            refine JL_step rfl rfl rfl (jo_callv rfl rfl Try.call50 rfl (hkS)) fun _ => ?_
            refine JL_guard rfl rfl h9 ?_
            refine JL_pd rfl (det_eql rfl rfl) ?_
            refine JL_pd rfl (det_pick_t rfl h9 rfl) ?_
            refine JL_pd rfl (det_move rfl) ?_
            refine JL_is (d0 := 149) true rfl (by (first | rfl | simp)) (fun h10 => ?_)
            refine JL_guard rfl rfl h10 ?_
            refine JL_step rfl rfl rfl (jo_callv rfl rfl Try.call17 rfl (awake_j)) fun _ => ?_
            refine JL_pd rfl (det_pick_t rfl h10 rfl) ?_
            refine JL_pd rfl (det_assign rfl) ?_
            refine JL_nil ?_
            refine JE_seq ?_
            refine JC_ret ?_
            refine JE_out (.inl rfl) () (results1 Try.results13 (res_tmp rfl)) ?_ (List.Perm.refl _) (fun _ _ => trivial)
            rfl
          · rw [c3] at k3; cases k3
    · skip
      have hk2 := fun (q c d : QH) => Lack_ca x q feet S c d
      rw [show lackE x feet S = .tuple #[I 0, I (shodE x.h feet)] by unfold lackE; rw [if_pos c0]] at hk2
      refine JC_skip ?_
      refine JE_seq ?_
      refine JC_seq ?_
      refine JC_region ?_
      refine JL_dt rfl (det_loadKA rfl Try.isAgg24 Try.sizeOf24 rfl rfl) ?_
      refine JL_step rfl rfl rfl (jo_call rfl rfl Try.call19 rfl (lHouse_j x (by omega))) fun x30 => ?_
      refine JL_pd rfl (det_move rfl) ?_
      -- stop: op  3 t32 := (call (Call (value f23) (t31) (22)))   <2 1>   163
      refine JL_step rfl rfl rfl (jo_call rfl rfl Try.call23 rfl (lList_j feet fa fc (by omega))) fun ca => ?_
      -- stop: op  4 t33 := (call (Call (value f46) (t30 t32) (30 22)))   <1 3 3>   163
      refine JL_step rfl rfl rfl (jo_callv rfl rfl Try.call46 rfl (Fit_ce x x30 feet ca.1 ca.2 c0)) fun _ => ?_
      refine JL_pd rfl (det_move rfl) ?_
      refine JL_pd rfl (det_extract rfl rfl) ?_
      refine JL_pd rfl (det_extract rfl rfl) ?_
      refine JL_pd rfl (det_assign rfl) ?_
      refine JL_pd rfl (det_assign rfl) ?_
      refine JL_nil ?_
      refine JE_seq ?_
      refine JC_seq ?_
      refine JC_region ?_
      refine JL_dt rfl (det_loadKA rfl Try.isAgg24 Try.sizeOf24 rfl rfl) ?_
      refine JL_step rfl rfl rfl (jo_call rfl rfl Try.call19 rfl (lHouse_j x (by omega))) fun x38 => ?_
      refine JL_pd rfl (det_move rfl) ?_
      -- stop: op  3 t40 := (call (Call (value f23) (t39) (22)))   <2 1>   164
      refine JL_step rfl rfl rfl (jo_call rfl rfl Try.call23 rfl (lList_j feet fa fc (by omega))) fun cb => ?_
      refine JL_pd rfl (det_move rfl) ?_
      -- stop: op  5 t42 := (call (Call (value f23) (t41) (22)))   <4 3>   164
      refine JL_step rfl rfl rfl (jo_call rfl rfl Try.call23 rfl (lList_j S sa sc (by omega))) fun cc => ?_
      -- stop: op  6 t43 := (call (Call (value f47) (t38 t40 t42) (30 22 22)))   <1 3 5 5>   164
      refine JL_step rfl rfl rfl (jo_callv rfl rfl Try.call47 rfl (hk2 x38 cb cc)) fun _ => ?_
      refine JL_pd rfl (det_move rfl) ?_
      refine JL_pd rfl (det_extract rfl rfl) ?_
      refine JL_pd rfl (det_extract rfl rfl) ?_
      refine JL_pd rfl (det_assign rfl) ?_
      refine JL_pd rfl (det_assign rfl) ?_
      refine JL_nil ?_
      refine JE_seq ?_
      refine JC_seq ?_
      refine JC_region ?_
      refine JL_dt rfl (det_loadKA rfl Try.isAgg24 Try.sizeOf24 rfl rfl) ?_
      refine JL_step rfl rfl rfl (jo_call rfl rfl Try.call19 rfl (lHouse_j x (by omega))) fun x48 => ?_
      refine JL_pd rfl (det_move rfl) ?_
      -- stop: op  3 t50 := (call (Call (value f23) (t49) (22)))   <2 1>   165
      refine JL_step rfl rfl rfl (jo_call rfl rfl Try.call23 rfl (lList_j feet fa fc (by omega))) fun cd => ?_
      -- stop: op  4 t51 := (call (Call (value f48) (t48 t50) (30 22)))   <1 3 3>   165
      refine JL_step rfl rfl rfl (jo_callv rfl rfl Try.call48 rfl (Sizes_ce x x48 feet cd.1 cd.2 c0)) fun _ => ?_
      refine JL_pd rfl (det_move rfl) ?_
      refine JL_pd rfl (det_extract rfl rfl) ?_
      refine JL_pd rfl (det_extract rfl rfl) ?_
      refine JL_pd rfl (det_assign rfl) ?_
      refine JL_pd rfl (det_assign rfl) ?_
      refine JL_nil ?_
      refine JE_seq ?_
      refine JC_seq ?_
      refine JC_region ?_
      refine JL_dt rfl (det_loadKA rfl Try.isAgg24 Try.sizeOf24 rfl rfl) ?_
      refine JL_pd rfl (det_move rfl) ?_
      refine JL_step rfl rfl rfl (jo_callv rfl rfl Try.call35 rfl (shod_jl x fa fc feet)) fun _ => ?_
      refine JL_pd rfl (det_assign rfl) ?_
      refine JL_nil ?_
      refine JE_seq ?_
      refine JC_seq ?_
      refine JC_seq ?_
      refine JC_region ?_
      refine JL_pd rfl (det_move rfl) ?_
      refine JL_pd rfl (det_neq rfl rfl) ?_
      refine JL_nil ?_
      refine JE_seq ?_
      -- stop: cond
      refine JC_ifn rfl (fun k1 => ?_) (fun k1 => ?_)
      · refine JC_seq ?_
        refine JC_region ?_
        refine JL_pd rfl (det_move rfl) ?_
        refine JL_pd rfl (det_move rfl) ?_
        refine JL_pd rfl (det_eql rfl rfl) ?_
        refine JL_pd rfl (det_move rfl) ?_
        -- stop: guard 3
        refine JL_is (d0 := 62) true rfl (by (first | rfl | simp)) (fun h11 => ?_)
        refine JL_guard rfl rfl h11 ?_
        refine JL_pd rfl (det_move rfl) ?_
        refine JL_guard rfl rfl h11 ?_
        refine JL_pd rfl (det_move rfl) ?_
        refine JL_guard rfl rfl h11 ?_
        refine JL_pd rfl (det_eql rfl rfl) ?_
        refine JL_pd rfl (det_pick_t rfl h11 rfl) ?_
        refine JL_pd rfl (det_move rfl) ?_
        refine JL_is (d0 := 67) true rfl (by (first | rfl | simp)) (fun h12 => ?_)
        refine JL_guard rfl rfl h12 ?_
        refine JL_pd rfl (det_move rfl) ?_
        refine JL_guard rfl rfl h12 ?_
        refine JL_pd rfl (det_move rfl) ?_
        refine JL_guard rfl rfl h12 ?_
        refine JL_pd rfl (det_eql rfl rfl) ?_
        refine JL_pd rfl (det_pick_t rfl h12 rfl) ?_
        refine JL_pd rfl (det_move rfl) ?_
        refine JL_is (d0 := 72) true rfl (by (first | rfl | simp)) (fun h13 => ?_)
        refine JL_guard rfl rfl h13 ?_
        refine JL_pd rfl (det_move rfl) ?_
        refine JL_guard rfl rfl h13 ?_
        refine JL_pd rfl (det_len rfl Try.runUnderlying22) ?_
        refine JL_guard rfl rfl h13 ?_
        refine JL_pd rfl (det_move rfl) ?_
        refine JL_guard rfl rfl h13 ?_
        refine JL_pd rfl (det_len rfl Try.runUnderlying22) ?_
        refine JL_guard rfl rfl h13 ?_
        refine JL_pd rfl (det_add rfl rfl ⟨by omega, by omega⟩) ?_
        refine JL_guard rfl rfl h13 ?_
        refine JL_pd rfl (det_eql rfl rfl) ?_
        refine JL_pd rfl (det_pick_t rfl h13 rfl) ?_
        refine JL_pd rfl (det_move rfl) ?_
        refine JL_is (d0 := 80) true rfl (by (first | rfl | simp)) (fun h14 => ?_)
        refine JL_guard rfl rfl h14 ?_
        refine JL_pd rfl (det_move rfl) ?_
        refine JL_guard rfl rfl h14 ?_
        refine JL_pd rfl (det_eql rfl rfl) ?_
        refine JL_pd rfl (det_pick_t rfl h14 rfl) ?_
        refine JL_pd rfl (det_move rfl) ?_
        refine JL_is (d0 := 84) true rfl (by (first | rfl | simp)) (fun h15 => ?_)
        refine JL_guard rfl rfl h15 ?_
        refine JL_step rfl rfl rfl (jo_callv rfl rfl Try.call17 rfl (awake_j)) fun _ => ?_
        refine JL_pd rfl (det_pick_t rfl h15 rfl) ?_
        refine JL_pd rfl (det_assign rfl) ?_
        refine JL_nil ?_
        refine JE_seq ?_
        refine JC_ret ?_
        refine JE_seq_ret ?_
        refine JE_out (.inl rfl) () (results1 Try.results13 (res_tmp rfl)) ?_ (List.Perm.refl _) (fun _ _ => trivial)
        rfl
      · exact absurd k1 c0
end Go.Proofs.Ytkmaafnbefpdjaa
