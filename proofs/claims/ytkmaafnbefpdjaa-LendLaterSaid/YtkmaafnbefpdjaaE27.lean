/- The statements about lend: LendLater. -/
import Derived.Test.YtkmaafnbefpdjaaE26
set_option linter.unusedSimpArgs false
set_option linter.unusedVariables false
namespace Go.Proofs.Ytkmaafnbefpdjaa
open Go.RowKit Go.Shelf

theorem encG_one (y : Gx) : (encG y).all (·.oneCell') = true := rfl
set_option maxRecDepth 100000 in
set_option maxHeartbeats 2000000 in
theorem LendLater_j (x : Hx) (ga : Option Addr) (gc : Nat) (xs : List Gx) (la : Option Addr) (cap : Nat) (plan : List Int) (which : Int) (hw : 0 ≤ which ∧ which ≤ 255) : Cv Try.prog 6 [.agg #[I x.h.lanes, .slice x.a x.h.shoes.length x.c], .slice ga xs.length gc, .slice la plan.length cap, .int .u8 which] (KAnd (KHx x) (KAnd (KGs ga gc xs) (KSl la plan.length cap encI plan))) (.bool true) := by
  refine Cx_of Try.func6 rfl Try.ntmps6 rfl fun w0 M0 => ?_
  refine JC_seq ?_
  refine JC_region ?_
  refine JL_step rfl rfl rfl (jo_box rfl rfl) fun b4 => ?_
  refine JL_pd rfl (det_assign rfl) ?_
  refine JL_nil ?_
  refine JE_seq ?_
  refine JC_seq ?_
  refine JC_seq ?_
  refine JC_region ?_
  refine JL_dt rfl (det_loadKA rfl Try.isAgg24 Try.sizeOf24 rfl rfl) ?_
  refine JL_pd rfl (det_move rfl) ?_
  refine JL_step rfl rfl rfl (jo_callv rfl rfl Try.call33 rfl (ready_j x ga gc xs)) fun _ => ?_
  refine JL_pd rfl (det_not rfl) ?_
  refine JL_pd rfl (det_move rfl) ?_
  -- stop: guard 4
  refine JL_join1 16 39 (.bool (!readyB x.h (gs xs) || decide ((12 : Int) < (plan.length : Int)) || decide ((xs.length : Int) = 0) || !decide (plannedE x.h (gs xs) plan = 0))) (fun hj => ?_) ?_
  · refine JL_split (d0 := 23) rfl (fun q1 => ?_) (fun q1 => ?_)
    · refine JL_skip rfl rfl q1 rfl ?_
      refine JL_skip rfl rfl q1 rfl ?_
      refine JL_skip rfl rfl q1 rfl ?_
      refine JL_pd rfl (det_pick_t rfl q1 rfl) ?_
      refine JL_pd rfl (det_move rfl) ?_
      refine JL_skip rfl rfl rfl rfl ?_
      refine JL_skip rfl rfl rfl rfl ?_
      refine JL_skip rfl rfl rfl rfl ?_
      refine JL_pd rfl (det_pick_t rfl rfl rfl) ?_
      refine JL_pd rfl (det_move rfl) ?_
      refine JL_skip rfl rfl rfl rfl ?_
      refine JL_skip rfl rfl rfl rfl ?_
      refine JL_skip rfl rfl rfl rfl ?_
      refine JL_skip rfl rfl rfl rfl ?_
      refine JL_skip rfl rfl rfl rfl ?_
      refine JL_pd rfl (det_pick_t rfl rfl rfl) ?_
      exact hj (by kernel_rfl) (stsub_consB rfl (by clear hj; first | rfl | (simp only [q1, Bool.and_true, Bool.true_and, Bool.false_and, Bool.and_false, Bool.or_true, Bool.true_or, Bool.or_false, Bool.false_or, Bool.not_true, Bool.not_false]; done) | (simp [q1]; done) | (simp at q1; done) | (simp [q1] <;> omega) | (exfalso; simp at q1; omega)) stsub_nil)
    · refine JL_guard rfl rfl q1 ?_
      refine JL_pd rfl (det_move rfl) ?_
      refine JL_guard rfl rfl q1 ?_
      refine JL_pd rfl (det_len rfl Try.runUnderlying22) ?_
      refine JL_guard rfl rfl q1 ?_
      refine JL_pd rfl (det_gtr rfl rfl) ?_
      refine JL_pd rfl (det_pick_f rfl q1 rfl) ?_
      refine JL_pd rfl (det_move rfl) ?_
      refine JL_split (d0 := 28) rfl (fun q2 => ?_) (fun q2 => ?_)
      · refine JL_skip rfl rfl q2 rfl ?_
        refine JL_skip rfl rfl q2 rfl ?_
        refine JL_skip rfl rfl q2 rfl ?_
        refine JL_pd rfl (det_pick_t rfl q2 rfl) ?_
        refine JL_pd rfl (det_move rfl) ?_
        refine JL_skip rfl rfl rfl rfl ?_
        refine JL_skip rfl rfl rfl rfl ?_
        refine JL_skip rfl rfl rfl rfl ?_
        refine JL_skip rfl rfl rfl rfl ?_
        refine JL_skip rfl rfl rfl rfl ?_
        refine JL_pd rfl (det_pick_t rfl rfl rfl) ?_
        exact hj (by kernel_rfl) (stsub_consB rfl (by clear hj; first | rfl | (simp only [q1, q2, Bool.and_true, Bool.true_and, Bool.false_and, Bool.and_false, Bool.or_true, Bool.true_or, Bool.or_false, Bool.false_or, Bool.not_true, Bool.not_false]; done) | (simp [q1, q2]; done) | (simp at q1; done) | (simp at q2; done) | (simp [q1, q2] <;> omega) | (exfalso; simp at q1 q2; omega) | (simp [q2] at q1; done) | (simp [q1] at q2; done)) stsub_nil)
      · refine JL_guard rfl rfl q2 ?_
        refine JL_pd rfl (det_move rfl) ?_
        refine JL_guard rfl rfl q2 ?_
        refine JL_pd rfl (det_len rfl Try.runUnderlying25) ?_
        refine JL_guard rfl rfl q2 ?_
        refine JL_pd rfl (det_eql rfl rfl) ?_
        refine JL_pd rfl (det_pick_f rfl q2 rfl) ?_
        refine JL_pd rfl (det_move rfl) ?_
        refine JL_split (d0 := 33) rfl (fun q3 => ?_) (fun q3 => ?_)
        · refine JL_skip rfl rfl q3 rfl ?_
          refine JL_skip rfl rfl q3 rfl ?_
          refine JL_skip rfl rfl q3 rfl ?_
          refine JL_skip rfl rfl q3 rfl ?_
          refine JL_skip rfl rfl q3 rfl ?_
          refine JL_pd rfl (det_pick_t rfl q3 rfl) ?_
          exact hj (by kernel_rfl) (stsub_consB rfl (by clear hj; first | rfl | (simp only [q1, q2, q3, Bool.and_true, Bool.true_and, Bool.false_and, Bool.and_false, Bool.or_true, Bool.true_or, Bool.or_false, Bool.false_or, Bool.not_true, Bool.not_false]; done) | (simp [q1, q2, q3]; done) | (simp at q1; done) | (simp at q2; done) | (simp at q3; done) | (simp [q1, q2, q3] <;> omega) | (exfalso; simp at q1 q2 q3; omega) | (simp [q2, q3] at q1; done) | (simp [q1, q3] at q2; done) | (simp [q1, q2] at q3; done)) stsub_nil)
        · refine JL_guard rfl rfl q3 ?_
          refine JL_dt rfl (det_loadKA rfl Try.isAgg24 Try.sizeOf24 rfl rfl) ?_
          refine JL_guard rfl rfl q3 ?_
          refine JL_pd rfl (det_move rfl) ?_
          refine JL_guard rfl rfl q3 ?_
          refine JL_pd rfl (det_move rfl) ?_
          refine JL_guard rfl rfl q3 ?_
          refine JL_step rfl rfl rfl (jo_callv rfl rfl Try.call25 rfl (planned_jl x ga gc xs la cap plan)) fun _ => ?_
          refine JL_guard rfl rfl q3 ?_
          refine JL_pd rfl (det_neq rfl rfl) ?_
          refine JL_pd rfl (det_pick_f rfl q3 rfl) ?_
          exact hj (by kernel_rfl) (stsub_consB rfl (by clear hj; first | rfl | (simp only [q1, q2, q3, Bool.and_true, Bool.true_and, Bool.false_and, Bool.and_false, Bool.or_true, Bool.true_or, Bool.or_false, Bool.false_or, Bool.not_true, Bool.not_false]; done) | (simp [q1, q2, q3]; done) | (simp at q1; done) | (simp at q2; done) | (simp at q3; done) | (simp [q1, q2, q3] <;> omega) | (exfalso; simp at q1 q2 q3; omega) | (simp [q2, q3] at q1; done) | (simp [q1, q3] at q2; done) | (simp [q1, q2] at q3; done)) stsub_nil)
  refine JL_nil ?_
  refine JE_seq ?_
  -- stop: cond
  refine JC_cond rfl (fun h1 => ?_) (fun h1 => ?_)
  · refine JC_seq ?_
    refine JC_region ?_
    refine JL_step rfl rfl rfl (jo_callv rfl rfl Try.call17 rfl (awake_j)) fun _ => ?_
    refine JL_pd rfl (det_assign rfl) ?_
    refine JL_nil ?_
    refine JE_seq ?_
    refine JC_ret ?_
    refine JE_seq_ret ?_
    -- stop: out
    refine JE_out (.inl rfl) () (results1 Try.results6 (res_tmp rfl)) rfl (List.Perm.refl _) (fun _ _ => trivial)
  · simp only [Bool.or_eq_false_iff, Bool.not_eq_false', decide_eq_false_iff_not, decide_eq_true_eq] at h1
    obtain ⟨⟨⟨h1, h2⟩, h3⟩, hpe⟩ := h1
    obtain ⟨⟨t1, t2, t3⟩, c1⟩ := ready_of h1
    have hgl : (gs xs).length = xs.length := List.length_map _
    rw [hgl] at t2
    have hpl : plan.length ≤ 12 := by omega
    have hft : ∀ y ∈ xs, y.g.feet.length ≤ 1000 := fun y hy => by have := t3 y.g (List.mem_map.2 ⟨y, hy, rfl⟩); omega
    have V := vld_of c1
    have hl0 := V.hs.l0
    have hl1 := V.hs.l1
    obtain ⟨K, hK⟩ : ∃ k : Nat, x.h.lanes.toNat = k := ⟨_, rfl⟩
    have hKK : x.h.lanes = (K : Int) := by omega
    have hG := goodP_of hpe
    have hpn : plan.length = xs.length := by rw [hG.n, hgl]
    obtain ⟨wn, rfl⟩ : ∃ n : Nat, which = n := ⟨which.toNat, by omega⟩
    obtain ⟨k, hkd⟩ : ∃ k : Nat, wn % xs.length = k := ⟨_, rfl⟩
    have hk : k < xs.length := by rw [← hkd]; exact Nat.mod_lt _ (by omega)
    have hkp : k < plan.length := by omega
    have hrem : (wn : Int).tmod (xs.length : Int) = (k : Int) := by rw [Int.tmod_eq_emod_of_nonneg (by omega), ← hkd]; rfl
    have hlat := fun (q : QH) (g : QG xs) (c : QH) => Later_c x q xs g plan c.1 c.2 (k : Int)
    refine JC_skip ?_
    refine JE_seq ?_
    refine JC_seq ?_
    refine JC_region ?_
    refine JL_pd rfl (det_move rfl) ?_
    refine JL_pd rfl (det_convI rfl Try.runUnderlying5 Try.runUnderlying3 (i64_wrap ⟨by omega, by omega⟩)) ?_
    refine JL_pd rfl (det_move rfl) ?_
    refine JL_pd rfl (det_len rfl Try.runUnderlying25) ?_
    refine JL_pd rfl (det_rem rfl rfl (by omega)) ?_
    refine JL_pd rfl (det_assign rfl) ?_
    refine JL_nil ?_
    refine JE_seq ?_
    refine JC_seq ?_
    refine JC_region ?_
    refine JL_dt rfl (det_loadKA rfl Try.isAgg24 Try.sizeOf24 rfl rfl) ?_
    refine JL_step rfl rfl rfl (jo_call rfl rfl Try.call19 rfl (lHouse_j x (by omega))) fun x48 => ?_
    refine JL_pd rfl (det_move rfl) ?_
    refine JL_step rfl rfl rfl (jo_call rfl rfl Try.call20 rfl (lGroups_j ga gc xs (by omega) hft)) fun x50 => ?_
    refine JL_pd rfl (det_move rfl) ?_
    refine JL_step rfl rfl rfl (jo_call rfl rfl Try.call23 rfl (lList_j plan la cap (by omega))) fun x52 => ?_
    refine JL_pd rfl (det_move rfl) ?_
    -- stop: op  7 t54 := (call (Call (value f30) (t48 t50 t52 t53) (30 32 22 3)))   <1 3 5 6 5>   204
    rw [hrem]
    have c2 : inI (k : Int) 0 ((xs.length : Int) - 1) = true := inI_iff.2 (by omega)
    have hgs : (gs xs)[((k : Int)).toNat]! = xs[k].g := gs_get xs k hk
    have hG2 := hpe
    have c3 : isPlan x.h.lanes (gs xs) plan = true := by
      unfold isPlan
      rw [Bool.and_eq_true, decide_eq_true_eq, List.all_eq_true]
      exact ⟨fun n hn => inI_iff.2 (by have := hG.lane n hn; omega), hG.n⟩
    have c4 : rightB (gs xs) plan = true := decide_eq_true hG.right
    have hE : laterE x (gs xs) plan k = if plan[k] ≠ -1 then (0, 0, 8) else later3 (laterV (tk ((gs xs).zip plan)) K xs[k].g) := by
      unfold laterE
      rw [if_neg (by omega), if_neg (by rw [hgl, c3, c2]; simp), hgs, Int.toNat_natCast, List.getD_eq_getElem?_getD, List.getElem?_eq_getElem hkp, hK]
      by_cases e : plan[k] = -1
      · rw [if_neg (by rw [c4]; simp [e]), if_neg (by simpa using e)]
      · rw [if_pos (.inr e), if_pos e]
    have hlk := hG.lane _ (List.getElem_mem hkp)
    have hv := V.gr _ (List.mem_map.2 ⟨_, List.getElem_mem hk, rfl⟩ : xs[k].g ∈ gs xs)
    have v1 := hv.f0
    have v2 := hv.fl
    have v3 := hv.lh
    have v4 := hv.h1
    by_cases c5 : 0 ≤ plan[k]
    · rw [if_pos (by omega)] at hE
      simp only [hE] at hlat
      refine JL_step rfl rfl rfl (jo_callv rfl rfl Try.call30 rfl (hlat x48 x50 x52)) fun _ => ?_
      refine JL_pd rfl (det_move rfl) ?_
      refine JL_pd rfl (det_extract rfl rfl) ?_
      refine JL_pd rfl (det_extract rfl rfl) ?_
      refine JL_pd rfl (det_extract rfl rfl) ?_
      refine JL_pd rfl (det_assign rfl) ?_
      refine JL_pd rfl (det_assign rfl) ?_
      refine JL_pd rfl (det_assign rfl) ?_
      refine JL_nil ?_
      refine JE_seq ?_
      refine JC_seq ?_
      refine JC_seq ?_
      refine JC_region ?_
      refine JL_pd rfl (det_move rfl) ?_
      refine JL_pd rfl (det_move rfl) ?_
      refine JL_dt rfl (det_indexAddr rfl rfl (by first | rfl | omega) (by first | assumption | omega | decide) Try.runUnderlying22 Try.sizeOf3) ?_
      refine JL_dt rfl (det_loadE rfl (by first | assumption | omega | decide) Try.isAgg3 rfl rfl) ?_
      refine JL_pd rfl (det_geq rfl rfl) ?_
      refine JL_nil ?_
      refine JE_seq ?_
      -- stop: cond
      refine JC_if rfl (fun k1 => ?_) (fun k1 => ?_)
      · refine JC_seq ?_
        refine JC_region ?_
        refine JL_pd rfl (det_move rfl) ?_
        refine JL_pd rfl (det_eql rfl rfl) ?_
        refine JL_pd rfl (det_move rfl) ?_
        -- stop: guard 2
        refine JL_is (d0 := 65) true rfl (by rfl) (fun h4 => ?_)
        refine JL_guard rfl rfl h4 ?_
        refine JL_step rfl rfl rfl (jo_callv rfl rfl Try.call17 rfl (awake_j)) fun _ => ?_
        refine JL_pd rfl (det_pick_t rfl h4 rfl) ?_
        refine JL_pd rfl (det_assign rfl) ?_
        refine JL_nil ?_
        refine JE_seq ?_
        refine JC_ret ?_
        refine JE_seq_ret ?_
        refine JE_out (.inl rfl) () (results1 Try.results6 (res_tmp rfl)) ?_ (List.Perm.refl _) (fun _ _ => trivial)
        rfl
      · exact absurd c5 k1
    · have hk1 : plan[k] = -1 := by omega
      rw [if_neg (by omega)] at hE
      have hgk : (gs xs)[k]'(by omega) = xs[k].g := by simp [gs]
      -- what Later tells
      obtain ⟨ln, hr0, er, hr, hdis⟩ : ∃ ln hr0 er : Int, laterE x (gs xs) plan k = (ln, hr0, er) ∧
          ((er = 7 ∧ ∀ a n : Nat, n < K → xs[k].g.fr + (a : Int) + (xs[k].g.hi - xs[k].g.fr) ≤ 30 → freeW (tk ((gs xs).zip plan)) xs[k].g n a = false) ∨
           (er = 0 ∧ xs[k].g.fr ≤ hr0 ∧ hr0 + (xs[k].g.hi - xs[k].g.fr) ≤ 30 ∧ ∀ a n : Nat, n < K → xs[k].g.fr + (a : Int) ≤ hr0 → (freeW (tk ((gs xs).zip plan)) xs[k].g n a = (decide (xs[k].g.fr + (a : Int) = hr0) && decide (ln ≤ (n : Int)))) ∨ (xs[k].g.fr + (a : Int) = hr0 ∧ ln < (n : Int)))) := by
        rw [hE]
        unfold laterV
        rcases laterN_spec (tk ((gs xs).zip plan)) K xs[k].g (31 - xs[k].g.hi).toNat with ⟨q1, q2⟩ | ⟨A, n0, q1, q2, q3, q4, q5, q6⟩
        · rw [q1]
          exact ⟨0, 0, 7, rfl, .inl ⟨rfl, fun a n hn ha => q2 a (by omega) n hn⟩⟩
        · rw [q1]
          refine ⟨(n0 : Int), xs[k].g.fr + A, 0, rfl, .inr ⟨rfl, by omega, by omega, fun a n hn ha => ?_⟩⟩
          by_cases e : a = A
          · subst e
            rcases Nat.lt_trichotomy n n0 with h | h | h
            · left; rw [q5 n h, decide_eq_false (show ¬ (n0 : Int) ≤ (n : Int) by omega), Bool.and_false]
            · left; subst h; rw [q4, decide_eq_true rfl, decide_eq_true (Int.le_refl _)]; rfl
            · right; exact ⟨rfl, by omega⟩
          · left; rw [q6 a (by omega) n hn, decide_eq_false (by omega), Bool.false_and]
      simp only [hr, tup3] at hlat
      refine JL_step rfl rfl rfl (jo_callv rfl rfl Try.call30 rfl (hlat x48 x50 x52)) fun _ => ?_
      refine JL_pd rfl (det_move rfl) ?_
      refine JL_pd rfl (det_extract rfl rfl) ?_
      refine JL_pd rfl (det_extract rfl rfl) ?_
      refine JL_pd rfl (det_extract rfl rfl) ?_
      refine JL_pd rfl (det_assign rfl) ?_
      refine JL_pd rfl (det_assign rfl) ?_
      refine JL_pd rfl (det_assign rfl) ?_
      refine JL_nil ?_
      refine JE_seq ?_
      refine JC_seq ?_
      refine JC_seq ?_
      refine JC_region ?_
      refine JL_pd rfl (det_move rfl) ?_
      refine JL_pd rfl (det_move rfl) ?_
      refine JL_dt rfl (det_indexAddr rfl rfl (by first | rfl | omega) (by first | assumption | omega | decide) Try.runUnderlying22 Try.sizeOf3) ?_
      refine JL_dt rfl (det_loadE rfl (by first | assumption | omega | decide) Try.isAgg3 rfl rfl) ?_
      refine JL_pd rfl (det_geq rfl rfl) ?_
      refine JL_nil ?_
      refine JE_seq ?_
      -- stop: cond
      refine JC_if rfl (fun k1 => ?_) (fun k1 => ?_)
      · exact absurd k1 c5
      refine JC_keep b4 noFp ?_
      refine JC_skip ?_
      refine JE_seq ?_
      refine JC_seq ?_
      refine JC_draw [] (by kernel_rfl) ?_
      refine JA_pd (i := 0) rfl (by kernel_rfl) rfl rfl (det_move rfl) ?_
      refine JA_pd (i := 1) rfl (by kernel_rfl) rfl rfl (det_move rfl) ?_
      refine JA_dt (i := 2) rfl (by kernel_rfl) (by kernel_rfl) rfl rfl (det_indexAddr rfl rfl (by first | rfl | omega) (by first | assumption | omega | decide) Try.runUnderlying25 Try.sizeOf55) ?_
      refine JA_pd (i := 3) rfl (by kernel_rfl) rfl rfl (det_fieldAddrE rfl fo_55_1) ?_
      refine JA_pd (i := 4) rfl (by kernel_rfl) rfl rfl (det_fieldAddrEk (k2 := 2) rfl fo_53_1 rfl) ?_
      refine JA_dt (i := 5) rfl (by kernel_rfl) (by kernel_rfl) rfl rfl (det_loadEk rfl (by first | assumption | omega | decide) Try.isAgg3 rfl rfl) ?_
      refine JA_pd (i := 6) rfl (by kernel_rfl) rfl rfl (det_move rfl) ?_
      refine JA_pd (i := 7) rfl (by kernel_rfl) rfl rfl (det_move rfl) ?_
      refine JA_dt (i := 8) rfl (by kernel_rfl) (by kernel_rfl) rfl rfl (det_indexAddr rfl rfl (by first | rfl | omega) (by first | assumption | omega | decide) Try.runUnderlying25 Try.sizeOf55) ?_
      refine JA_pd (i := 9) rfl (by kernel_rfl) rfl rfl (det_fieldAddrE rfl fo_55_0) ?_
      refine JA_dt (i := 10) rfl (by kernel_rfl) (by kernel_rfl) rfl rfl (det_loadEk rfl (by first | assumption | omega | decide) Try.isAgg3 rfl rfl) ?_
      refine JA_pd (i := 11) rfl (by kernel_rfl) rfl rfl (det_sub rfl rfl ⟨by omega, by omega⟩) ?_
      refine JA_pd (i := 12) rfl (by kernel_rfl) rfl rfl (det_assign rfl) ?_
      refine JA_done (by kernel_rfl) ?_
      refine JE_seq ?_
      refine JC_seq ?_
      refine JC_seq ?_
      refine JC_region ?_
      refine JL_pd rfl (det_move rfl) ?_
      refine JL_pd rfl (det_eql rfl rfl) ?_
      refine JL_nil ?_
      refine JE_seq ?_
      -- stop: cond
      refine JC_cutF (γ := Int) (fun hour => xs[k].g.fr ≤ hour ∧ hour ≤ 31 ∧ ∀ a n : Nat, n < K → xs[k].g.fr + (a : Int) ≤ hour → xs[k].g.fr + (a : Int) + (xs[k].g.hi - xs[k].g.fr) ≤ 30 → (freeW (tk ((gs xs).zip plan)) xs[k].g n a = (decide (xs[k].g.fr + (a : Int) = hour) && decide (ln ≤ (n : Int)))) ∨ (xs[k].g.fr + (a : Int) = hour ∧ ln < (n : Int))) (fun hour => [(11, I hour)]) (fun _ => []) [] (fun K2 hK2 => ?_) (fun hour hh => ?_)
      · skip
        -- stop: cond
        refine JC_if rfl (fun k2 => ?_) (fun k2 => ?_)
        · refine JC_region ?_
          refine JL_pd rfl (det_assign rfl) ?_
          refine JL_nil ?_
          -- stop: end
          exact JE_cutF hK2 31 ⟨by omega, by omega, fun a n hn ha hb => by
            rcases hdis with ⟨_, q⟩ | ⟨q, _⟩
            · left; rw [q a n hn hb, decide_eq_false (by omega), Bool.false_and]
            · omega⟩ (stsub_consI rfl rfl stsub_nil) ht_nil
        · have hd2 := hdis.resolve_left (fun q => k2 q.1)
          obtain ⟨d1, d2, d3, d4⟩ := hd2
          refine JC_seq ?_
          refine JC_region ?_
          refine JL_pd rfl (det_move rfl) ?_
          refine JL_pd rfl (det_neq rfl rfl) ?_
          refine JL_pd rfl (det_move rfl) ?_
          -- stop: guard 2
          refine JL_is (d0 := 84) false rfl (by rw [d1]; rfl) (fun g1 => ?_)
          refine JL_guard rfl rfl g1 ?_
          refine JL_pd rfl (det_move rfl) ?_
          refine JL_guard rfl rfl g1 ?_
          refine JL_pd rfl (det_move rfl) ?_
          refine JL_guard rfl rfl g1 ?_
          refine JL_pd rfl (det_move rfl) ?_
          refine JL_guard rfl rfl g1 ?_
          refine JL_dt rfl (det_indexAddr rfl rfl (by first | rfl | omega) (by first | assumption | omega | decide) Try.runUnderlying25 Try.sizeOf55) ?_
          refine JL_guard rfl rfl g1 ?_
          refine JL_pd rfl (det_fieldAddrE rfl fo_55_0) ?_
          refine JL_guard rfl rfl g1 ?_
          refine JL_dt rfl (det_loadEk rfl (by first | assumption | omega | decide) Try.isAgg3 rfl rfl) ?_
          refine JL_guard rfl rfl g1 ?_
          refine JL_pd rfl (det_lss rfl rfl) ?_
          refine JL_pd rfl (det_pick_f rfl g1 rfl) ?_
          refine JL_pd rfl (det_move rfl) ?_
          -- stop: guard 11
          refine JL_is (d0 := 93) false rfl (by exact decide_eq_false (by omega)) (fun g2 => ?_)
          refine JL_guard rfl rfl g2 ?_
          refine JL_pd rfl (det_move rfl) ?_
          refine JL_guard rfl rfl g2 ?_
          refine JL_pd rfl (det_move rfl) ?_
          refine JL_guard rfl rfl g2 ?_
          refine JL_pd rfl (det_add rfl rfl ⟨by omega, by omega⟩) ?_
          refine JL_guard rfl rfl g2 ?_
          refine JL_pd rfl (det_gtr rfl rfl) ?_
          refine JL_pd rfl (det_pick_f rfl g2 rfl) ?_
          refine JL_nil ?_
          refine JE_seq ?_
          -- stop: cond
          refine JC_cond rfl (fun k3 => ?_) (fun k3 => ?_)
          · exact absurd (of_decide_eq_true k3) (by omega)
          refine JC_skip ?_
          -- stop: end
          exact JE_cutF hK2 hr0 ⟨d2, by omega, fun a n hn ha _ => d4 a n hn ha⟩ (stsub_consI rfl rfl stsub_nil) ht_nil
      obtain ⟨hh1, hh2, hh3⟩ := hh
      dsimp only [List.cons_append, List.nil_append]
      refine JC_seq ?_
      refine JC_seq ?_
      refine JC_region ?_
      refine JL_pd rfl (det_move rfl) ?_
      refine JL_pd rfl (det_move rfl) ?_
      refine JL_dt rfl (det_indexAddr rfl rfl (by first | rfl | omega) (by first | assumption | omega | decide) Try.runUnderlying25 Try.sizeOf55) ?_
      refine JL_pd rfl (det_fieldAddrE rfl fo_55_0) ?_
      refine JL_dt rfl (det_loadEk rfl (by first | assumption | omega | decide) Try.isAgg3 rfl rfl) ?_
      refine JL_pd rfl (det_assign rfl) ?_
      refine JL_nil ?_
      refine JE_seq ?_
      refine JC_block ?_
      -- stop: loop
      refine JC_loopF (γ := Nat) (fun a => xs[k].g.fr + (a : Int) ≤ 32) (fun a => [(14, I (xs[k].g.fr + a))]) (fun _ => []) (fun a => (32 - xs[k].g.fr).toNat - a) 0 (by omega) (stsub_consI rfl (by simp) stsub_nil) ht_nil ?_
      intro a ha0 K2 hK2
      dsimp only [List.cons_append, List.nil_append]
      refine JC_seq ?_
      refine JC_seq ?_
      refine JC_region ?_
      refine JL_pd rfl (det_move rfl) ?_
      refine JL_pd rfl (det_move rfl) ?_
      refine JL_pd rfl (det_leq rfl rfl) ?_
      refine JL_pd rfl (det_move rfl) ?_
      -- stop: guard 3
      refine JL_join1 5 112 (.bool (decide (xs[k].g.fr + (a : Int) ≤ hour) && decide (xs[k].g.fr + (a : Int) + (xs[k].g.hi - xs[k].g.fr) ≤ 30))) (fun hj => ?_) ?_
      · refine JL_split (d0 := 107) rfl (fun q5 => ?_) (fun q5 => ?_)
        · refine JL_guard rfl rfl q5 ?_
          refine JL_pd rfl (det_move rfl) ?_
          refine JL_guard rfl rfl q5 ?_
          refine JL_pd rfl (det_move rfl) ?_
          refine JL_guard rfl rfl q5 ?_
          refine JL_pd rfl (det_add rfl rfl ⟨by omega, by omega⟩) ?_
          refine JL_guard rfl rfl q5 ?_
          refine JL_pd rfl (det_leq rfl rfl) ?_
          refine JL_pd rfl (det_pick_t rfl q5 rfl) ?_
          exact hj (by kernel_rfl) (stsub_consB rfl (by clear hj; first | rfl | (simp only [q5, Bool.and_true, Bool.true_and, Bool.false_and, Bool.and_false, Bool.or_true, Bool.true_or, Bool.or_false, Bool.false_or, Bool.not_true, Bool.not_false]; done) | (simp [q5]; done) | (simp at q5; done) | (simp [q5] <;> omega) | (exfalso; simp at q5; omega)) stsub_nil)
        · refine JL_skip rfl rfl q5 rfl ?_
          refine JL_skip rfl rfl q5 rfl ?_
          refine JL_skip rfl rfl q5 rfl ?_
          refine JL_skip rfl rfl q5 rfl ?_
          refine JL_pd rfl (det_pick_f rfl q5 rfl) ?_
          exact hj (by kernel_rfl) (stsub_consB rfl (by clear hj; first | rfl | (simp only [q5, Bool.and_true, Bool.true_and, Bool.false_and, Bool.and_false, Bool.or_true, Bool.true_or, Bool.or_false, Bool.false_or, Bool.not_true, Bool.not_false]; done) | (simp [q5]; done) | (simp at q5; done) | (simp [q5] <;> omega) | (exfalso; simp at q5; omega)) stsub_nil)
      refine JL_nil ?_
      refine JE_seq ?_
      -- stop: cond
      refine JC_cond rfl (fun k4 => ?_) (fun k4 => ?_)
      · simp only [Bool.and_eq_true, decide_eq_true_eq] at k4
        obtain ⟨k4, k5⟩ := k4
        generalize hat : xs[k].g.fr + (a : Int) = at_ at k4 k5
        obtain ⟨y1, hy1⟩ : ∃ y1 : Gx, y1 = ⟨⟨at_, xs[k].g.lo, xs[k].g.hi, xs[k].g.feet⟩, xs[k].a, xs[k].c⟩ := ⟨_, rfl⟩
        obtain ⟨y, hy⟩ : ∃ y : Gx, y = ⟨moved xs[k].g at_, xs[k].a, xs[k].c⟩ := ⟨_, rfl⟩
        have hx1 : splice (xs.flatMap encG) (k * 4 + 0) [I at_] = (xs.set k y1).flatMap encG := splice_in encG xs k y1 0 [I at_] hk (by simp) (by rw [hy1]; rfl)
        have hx2 : splice ((xs.set k y1).flatMap encG) (k * 4 + 1) [I at_, I (at_ + (xs[k].g.hi - xs[k].g.fr))] = (xs.set k y).flatMap encG := by
          rw [splice_in encG (xs.set k y1) k y 1 [I at_, I (at_ + (xs[k].g.hi - xs[k].g.fr))] (by rw [List.length_set]; exact hk) (by simp) (by rw [List.getElem_set_self, hy1, hy]; rfl), List.set_set]
        refine JC_skip ?_
        refine JE_seq ?_
        refine JC_seq ?_
        refine JC_block ?_
        refine JC_seq ?_
        refine JC_region ?_
        refine JL_step rfl rfl rfl (jo_buildOwn (z := 4) rfl (bsl_25_0) rfl (by decide)) fun b115 => ?_
        refine JL_pd rfl (det_move rfl) ?_
        refine JL_step rfl rfl rfl (jo_appendK (e := encG) el_25 rfl rfl encG_one (by omega)) fun b117 => ?_
        refine JL_form b117 (by omega) ?_
        rintro xb xc hxv
        subst hxv
        refine JL_pd rfl (det_assign rfl) ?_
        refine JL_nil ?_
        refine JE_seq ?_
        refine JC_seq ?_
        refine JC_region ?_
        refine JL_pd rfl (det_move rfl) ?_
        refine JL_pd rfl (det_move rfl) ?_
        refine JL_pd rfl (det_move rfl) ?_
        refine JL_pd rfl (det_move rfl) ?_
        refine JL_pd rfl (det_move rfl) ?_
        refine JL_pd rfl (det_move rfl) ?_
        refine JL_pd rfl (det_move rfl) ?_
        refine JL_pd rfl (det_move rfl) ?_
        refine JL_pd rfl (det_add rfl rfl ⟨by omega, by omega⟩) ?_
        refine JL_pd rfl (det_build rfl (bld_53_0_1 _ _)) ?_
        refine JL_pd rfl (det_indexOwn (i := k) rfl rfl (by first | rfl | omega) (by first | assumption | omega) Try.runUnderlying25 Try.sizeOf55) ?_
        refine JL_pd rfl (det_fieldAddr rfl fo_55_0) ?_
        refine JL_step0 rfl rfl (jo_storeO (xs' := (xs.set k y1).flatMap encG) (vs := [I at_]) rfl rfl rfl hx1 Try.sizeOf3 (by rw [flat_len]; simp; omega) rfl) fun _ => ?_
        refine JL_pd rfl (det_indexOwn (i := k) rfl rfl (by first | rfl | omega) (by first | assumption | omega) Try.runUnderlying25 Try.sizeOf55) ?_
        refine JL_pd rfl (det_fieldAddr rfl fo_55_1) ?_
        refine JL_step0 rfl rfl (jo_storeO (xs' := (xs.set k y).flatMap encG) (vs := [I at_, I (at_ + (xs[k].g.hi - xs[k].g.fr))]) rfl rfl rfl hx2 Try.sizeOf53 (by rw [flat_len, List.length_set]; simp; omega) rfl) fun _ => ?_
        refine JL_nil ?_
        refine JE_seq ?_
        refine JC_seq ?_
        refine JC_region ?_
        refine JL_pd rfl (det_assign rfl) ?_
        refine JL_nil ?_
        refine JE_seq ?_
        refine JC_block ?_
        -- stop: loop
        have hsl : (xs.set k y).length = 0 + xs.length := by simp
        have hgx : gs (xs.set k y) = (gs xs).set k (moved xs[k].g at_) := by rw [gs, gs, List.map_set, hy]
        have hmv : ∀ g ∈ gs (xs.set k y), VGr g := fun g hg => by
          rw [hgx] at hg
          rcases List.mem_or_eq_of_mem_set hg with hg | rfl
          · exact V.gr g hg
          · exact ⟨by unfold moved; simp only; omega, by unfold moved; simp only; omega, by unfold moved; simp only; omega, by unfold moved; simp only; omega, hv.ft⟩
        have hfl : fault x.h (gs (xs.set k y)) = 0 := by
          refine of_vld ⟨V.hs, by rw [hgx, List.length_set]; exact V.n, fun g hg => ?_, hmv⟩
          rw [hgx] at hg
          rcases List.mem_or_eq_of_mem_set hg with hg | rfl
          · exact V.fw g hg
          · exact V.fw xs[k].g (List.mem_map.2 ⟨_, List.getElem_mem hk, rfl⟩)
        refine JC_slice (enc := encG) (v := .slice (some ⟨xb, 0, none⟩) (0 + xs.length) xc) (xs.set k y) noFp rfl hsl.symm fun a2 c2 e2 => ?_
        obtain rfl := (Value.slice.inj e2).1
        obtain rfl := (Value.slice.inj e2).2.2
        refine JC_know (R' := KAnd (KGs (some ⟨xb, 0, none⟩) xc (xs.set k y)) _) (fun w h => ⟨⟨by have hq := Knows.know (F := KSl (some ⟨xb, 0, none⟩) (0 + xs.length) xc encG (xs.set k y)) w h; rw [← hsl] at hq; exact hq, fun z hz => ?_⟩, h⟩) ?_
        · have hK0 := Knows.know (F := KFt xs) w h
          rcases List.mem_or_eq_of_mem_set hz with hz | rfl
          · exact hK0 z hz
          · rw [hy]; exact hK0 xs[k] (List.getElem_mem hk)
        have hft2 : ∀ z ∈ xs.set k y, z.g.feet.length ≤ 1000 := fun z hz => by
          rcases List.mem_or_eq_of_mem_set hz with hz | rfl
          · exact hft z hz
          · rw [hy]; exact hft xs[k] (List.getElem_mem hk)
        have hGc := lGroups_j (some ⟨xb, 0, none⟩) xc (xs.set k y) (by rw [hsl]; omega) hft2
        rw [hsl] at hGc
        refine JC_loopF (γ := Nat) (fun n => n ≤ K) (fun n => [(16, I n)]) (fun _ => []) (fun n => K - n) 0 (Nat.zero_le _) (stsub_consI rfl rfl stsub_nil) ht_nil ?_
        intro n hn K3 hK3
        dsimp only [List.cons_append, List.nil_append]
        refine JC_seq ?_
        refine JC_seq ?_
        refine JC_region ?_
        refine JL_pd rfl (det_move rfl) ?_
        refine JL_pd rfl (det_fieldAddr rfl fo_24_0) ?_
        refine JL_dt rfl (det_loadK rfl Try.isAgg3 rfl) ?_
        refine JL_pd rfl (det_lss rfl rfl) ?_
        refine JL_nil ?_
        refine JE_seq ?_
        -- stop: cond
        refine JC_if rfl (fun k6 => ?_) (fun k6 => ?_)
        · have hn2 : n < K := by omega
          have hps : (plan.set k (n : Int)).length = plan.length := List.length_set ..
          have hval : (decide (plannedE x.h (gs (xs.set k y)) (plan.set k (n : Int)) = 0) && decide ((0 : Int) ≤ (served (plan.set k (n : Int)) : Nat))) = freeW (tk ((gs xs).zip plan)) xs[k].g n a := by
            have hfs := free_set (l := gs xs) (p := plan) (k := k) (by omega) hG.n hk1 V.gr n (by omega) a
            rw [hgk, hat] at hfs
            have hrs := right_set (l := gs xs) (p := plan) (k := k) (by omega) hG.n hG.right (moved xs[k].g at_) (n : Int)
            have hip : isPlan x.h.lanes (gs (xs.set k y)) (plan.set k (n : Int)) = true := by
              unfold isPlan
              rw [Bool.and_eq_true, decide_eq_true_eq, List.all_eq_true]
              refine ⟨fun m hm => inI_iff.2 ?_, by rw [hps, hgx, List.length_set]; exact hG.n⟩
              rcases List.mem_or_eq_of_mem_set hm with hm | rfl
              · have := hG.lane m hm; omega
              · omega
            rw [decide_eq_true (show (0 : Int) ≤ (served (plan.set k (n : Int)) : Nat) by omega), Bool.and_true, Bool.eq_iff_iff, decide_eq_true_eq, hfs, ← hrs, ← hgx]
            unfold plannedE
            rw [if_neg (by omega), if_neg (by rw [hip]; decide)]
            unfold rightB
            by_cases e : RightZ ((gs (xs.set k y)).zip (plan.set k (n : Int)))
            · rw [decide_eq_true e, if_neg (by simp)]; exact ⟨fun _ => e, fun _ => rfl⟩
            · rw [decide_eq_false e, if_pos (by simp)]; exact ⟨fun q => absurd q (by decide), fun q => absurd q e⟩
          have hpp := fun (q : QH) (g : QG (xs.set k y)) (pa : Option Addr) (pc : Nat) => ProvePlan_c x q (xs.set k y) g (plan.set k (n : Int)) pa pc 0
          rw [hval, hps] at hpp
          have hcl := hh3 a n hn2 (by omega) (by omega)
          generalize freeW (tk ((gs xs).zip plan)) xs[k].g n a = F at hpp hcl
          refine JC_skip ?_
          refine JE_seq ?_
          refine JC_seq ?_
          refine JC_block ?_
          refine JC_seq ?_
          refine JC_region ?_
          refine JL_pd rfl (det_move rfl) ?_
          -- stop: op  1 t139 := (call (Call (value f23) (t138) (22)))   <0>   218
          refine JL_step rfl rfl rfl (jo_call rfl rfl Try.call23 rfl (lList_o plan la cap (by omega))) fun pv => ?_
          refine JL_form pv (by omega) ?_
          rintro pb pc hpv
          subst hpv
          refine JL_pd rfl (det_assign rfl) ?_
          refine JL_nil ?_
          refine JE_seq ?_
          refine JC_seq ?_
          refine JC_region ?_
          refine JL_pd rfl (det_move rfl) ?_
          refine JL_pd rfl (det_move rfl) ?_
          refine JL_pd rfl (det_move rfl) ?_
          refine JL_pd rfl (det_indexOwn (i := k) rfl rfl (by first | rfl | omega) (by first | assumption | omega) Try.runUnderlying22 Try.sizeOf3) ?_
          refine JL_step0 rfl rfl (jo_storeO (xs' := (plan.set k (n : Int)).flatMap encI) (vs := encI (n : Int)) rfl rfl rfl (splice_rec encI plan k (n : Int) hkp) Try.sizeOf3 (by rw [flat_len]; simp [encI]; omega) rfl) fun _ => ?_
          refine JL_nil ?_
          refine JE_seq ?_
          refine JC_seq ?_
          refine JC_region ?_
          refine JL_dt rfl (det_loadKA rfl Try.isAgg24 Try.sizeOf24 rfl rfl) ?_
          refine JL_step rfl rfl rfl (jo_call rfl rfl Try.call19 rfl (lHouse_j x (by omega))) fun x145 => ?_
          refine JL_pd rfl (det_move rfl) ?_
          refine JL_step rfl rfl rfl (jo_call rfl rfl Try.call20 rfl (hGc)) fun x147 => ?_
          refine JL_pd rfl (det_move rfl) ?_
          refine JL_slice (enc := encI) (v := .slice (some ⟨pb, 0, none⟩) plan.length pc) (plan.set k (n : Int)) noFp rfl hps.symm ?_
          rintro _ _ hpv
          cases hpv
          refine JL_step rfl rfl rfl (jo_callv rfl rfl Try.call22 rfl (hpp x145 x147 _ _)) fun _ => ?_
          refine JL_pd rfl (det_assign rfl) ?_
          refine JL_nil ?_
          refine JE_seq ?_
          refine JC_seq ?_
          refine JC_region ?_
          refine JL_pd rfl (det_move rfl) ?_
          refine JL_pd rfl (det_move rfl) ?_
          refine JL_pd rfl (det_move rfl) ?_
          refine JL_pd rfl (det_eql rfl rfl) ?_
          refine JL_pd rfl (det_move rfl) ?_
          -- stop: guard 4
          by_cases e1 : at_ = hour
          · by_cases e3 : ln < (n : Int)
            · refine JL_is (d0 := 154) true rfl (by exact decide_eq_true e1) (fun g1 => ?_)
              refine JL_guard rfl rfl g1 ?_
              refine JL_pd rfl (det_move rfl) ?_
              refine JL_guard rfl rfl g1 ?_
              refine JL_pd rfl (det_move rfl) ?_
              refine JL_guard rfl rfl g1 ?_
              refine JL_pd rfl (det_geq rfl rfl) ?_
              refine JL_pd rfl (det_pick_t rfl g1 rfl) ?_
              refine JL_pd rfl (det_neqB rfl rfl Try.underlying4) ?_
              refine JL_pd rfl (det_move rfl) ?_
              -- stop: guard 10
              refine JL_split (d0 := 160) rfl (fun g2 => ?_) (fun g2 => ?_)
              · refine JL_guard rfl rfl g2 ?_
                refine JL_pd rfl (det_move rfl) ?_
                refine JL_guard rfl rfl g2 ?_
                refine JL_pd rfl (det_move rfl) ?_
                refine JL_guard rfl rfl g2 ?_
                refine JL_pd rfl (det_eql rfl rfl) ?_
                refine JL_guard rfl rfl g2 ?_
                refine JL_pd rfl (det_move rfl) ?_
                -- stop: guard 14
                refine JL_is (d0 := 164) true rfl (by exact decide_eq_true e1) (fun g3 => ?_)
                refine JL_guard rfl rfl g3 ?_
                refine JL_pd rfl (det_move rfl) ?_
                refine JL_guard rfl rfl g3 ?_
                refine JL_pd rfl (det_move rfl) ?_
                refine JL_guard rfl rfl g3 ?_
                refine JL_pd rfl (det_gtr rfl rfl) ?_
                refine JL_guard rfl rfl g2 ?_
                refine JL_pd rfl (det_pick_t rfl g3 rfl) ?_
                refine JL_guard rfl rfl g2 ?_
                refine JL_pd rfl (det_not rfl) ?_
                refine JL_pd rfl (det_pick_t rfl g2 rfl) ?_
                refine JL_nil ?_
                refine JE_seq ?_
                -- stop: cond
                refine JC_cond rfl (fun e4 => ?_) (fun e4 => ?_)
                · exact absurd e4 (by simp [e3])
                refine JC_skip ?_
                refine JE_block ?_
                refine JE_seq ?_
                refine JC_region ?_
                refine JL_pd rfl (det_move rfl) ?_
                refine JL_pd rfl (det_add rfl rfl ⟨by omega, by omega⟩) ?_
                refine JL_pd rfl (det_assign rfl) ?_
                refine JL_nil ?_
                -- stop: end
                exact JE_roundF hK3 (n + 1) (by omega) (by omega) (stsub_consI rfl (by omega) stsub_nil) ht_nil
              · refine JL_skip rfl rfl g2 rfl ?_
                refine JL_skip rfl rfl g2 rfl ?_
                refine JL_skip rfl rfl g2 rfl ?_
                refine JL_skip rfl rfl g2 rfl ?_
                refine JL_skipU rfl rfl rfl ?_
                refine JL_skipU rfl rfl rfl ?_
                refine JL_skipU rfl rfl rfl ?_
                refine JL_skip rfl rfl g2 rfl ?_
                refine JL_skip rfl rfl g2 rfl ?_
                refine JL_pd rfl (det_pick_f rfl g2 rfl) ?_
                refine JL_nil ?_
                refine JE_seq ?_
                refine JC_condF rfl rfl ?_
                refine JC_skip ?_
                refine JE_block ?_
                refine JE_seq ?_
                refine JC_region ?_
                refine JL_pd rfl (det_move rfl) ?_
                refine JL_pd rfl (det_add rfl rfl ⟨by omega, by omega⟩) ?_
                refine JL_pd rfl (det_assign rfl) ?_
                refine JL_nil ?_
                -- stop: end
                exact JE_roundF hK3 (n + 1) (by omega) (by omega) (stsub_consI rfl (by omega) stsub_nil) ht_nil
            · skip
              have hF : F = decide (ln ≤ (n : Int)) := by
                rcases hcl with q | ⟨_, q⟩
                · rw [q, hat, decide_eq_true e1, Bool.true_and]
                · omega
              subst hF
              refine JL_is (d0 := 154) true rfl (by exact decide_eq_true e1) (fun g1 => ?_)
              refine JL_guard rfl rfl g1 ?_
              refine JL_pd rfl (det_move rfl) ?_
              refine JL_guard rfl rfl g1 ?_
              refine JL_pd rfl (det_move rfl) ?_
              refine JL_guard rfl rfl g1 ?_
              refine JL_pd rfl (det_geq rfl rfl) ?_
              refine JL_pd rfl (det_pick_t rfl g1 rfl) ?_
              refine JL_pd rfl (det_neqB rfl rfl Try.underlying4) ?_
              refine JL_pd rfl (det_move rfl) ?_
              -- stop: guard 10
              refine JL_is (d0 := 160) false rfl (by simp) (fun g2 => ?_)
              refine JL_skip rfl rfl g2 rfl ?_
              refine JL_skip rfl rfl g2 rfl ?_
              refine JL_skip rfl rfl g2 rfl ?_
              refine JL_skip rfl rfl g2 rfl ?_
              refine JL_skipU rfl rfl rfl ?_
              refine JL_skipU rfl rfl rfl ?_
              refine JL_skipU rfl rfl rfl ?_
              refine JL_skip rfl rfl g2 rfl ?_
              refine JL_skip rfl rfl g2 rfl ?_
              refine JL_pd rfl (det_pick_f rfl g2 rfl) ?_
              refine JL_nil ?_
              refine JE_seq ?_
              refine JC_condF rfl rfl ?_
              refine JC_skip ?_
              refine JE_block ?_
              refine JE_seq ?_
              refine JC_region ?_
              refine JL_pd rfl (det_move rfl) ?_
              refine JL_pd rfl (det_add rfl rfl ⟨by omega, by omega⟩) ?_
              refine JL_pd rfl (det_assign rfl) ?_
              refine JL_nil ?_
              -- stop: end
              exact JE_roundF hK3 (n + 1) (by omega) (by omega) (stsub_consI rfl (by omega) stsub_nil) ht_nil
          · have hF : F = false := by
              rcases hcl with q | ⟨q, _⟩
              · rw [q, hat, decide_eq_false e1, Bool.false_and]
              · exact absurd (hat ▸ q) e1
            subst hF
            refine JL_is (d0 := 154) false rfl (by exact decide_eq_false e1) (fun g1 => ?_)
            refine JL_skip rfl rfl g1 rfl ?_
            refine JL_skip rfl rfl g1 rfl ?_
            refine JL_skip rfl rfl g1 rfl ?_
            refine JL_pd rfl (det_pick_f rfl g1 rfl) ?_
            refine JL_pd rfl (det_neqB rfl rfl Try.underlying4) ?_
            refine JL_pd rfl (det_move rfl) ?_
            -- stop: guard 10
            refine JL_is (d0 := 160) false rfl (by rfl) (fun g2 => ?_)
            refine JL_skip rfl rfl g2 rfl ?_
            refine JL_skip rfl rfl g2 rfl ?_
            refine JL_skip rfl rfl g2 rfl ?_
            refine JL_skip rfl rfl g2 rfl ?_
            refine JL_skipU rfl rfl rfl ?_
            refine JL_skipU rfl rfl rfl ?_
            refine JL_skipU rfl rfl rfl ?_
            refine JL_skip rfl rfl g2 rfl ?_
            refine JL_skip rfl rfl g2 rfl ?_
            refine JL_pd rfl (det_pick_f rfl g2 rfl) ?_
            refine JL_nil ?_
            refine JE_seq ?_
            refine JC_condF rfl rfl ?_
            refine JC_skip ?_
            refine JE_block ?_
            refine JE_seq ?_
            refine JC_region ?_
            refine JL_pd rfl (det_move rfl) ?_
            refine JL_pd rfl (det_add rfl rfl ⟨by omega, by omega⟩) ?_
            refine JL_pd rfl (det_assign rfl) ?_
            refine JL_nil ?_
            -- stop: end
            exact JE_roundF hK3 (n + 1) (by omega) (by omega) (stsub_consI rfl (by omega) stsub_nil) ht_nil
        · obtain rfl : n = K := by omega
          refine JC_exit ?_
          refine JE_seq_exit ?_
          refine JE_then_exit ?_
          refine JE_block_here ?_
          refine JE_block ?_
          refine JE_seq ?_
          refine JC_region ?_
          refine JL_pd rfl (det_move rfl) ?_
          refine JL_pd rfl (det_add rfl rfl ⟨by omega, by omega⟩) ?_
          refine JL_pd rfl (det_assign rfl) ?_
          refine JL_nil ?_
          -- stop: end
          exact JE_roundF hK2 (a + 1) (by omega) (by omega) (stsub_consI rfl (by omega) stsub_nil) ht_nil
      · refine JC_exit ?_
        refine JE_seq_exit ?_
        refine JE_then_exit ?_
        refine JE_block_here ?_
        refine JE_seq ?_
        refine JC_seq ?_
        refine JC_region ?_
        refine JL_step rfl rfl rfl (jo_callv rfl rfl Try.call17 rfl (awake_j)) fun _ => ?_
        refine JL_pd rfl (det_assign rfl) ?_
        refine JL_nil ?_
        refine JE_seq ?_
        refine JC_ret ?_
        -- stop: out
        refine JE_out (.inl rfl) () (results1 Try.results6 (res_tmp rfl)) rfl (List.Perm.refl _) (fun _ _ => trivial)
end Go.Proofs.Ytkmaafnbefpdjaa
