/- The statements about bill: BillParts. -/
import Derived.Test.YtjbmkdbgobmclaaB22
set_option linter.unusedSimpArgs false
set_option linter.unusedVariables false
namespace Go.Proofs.Ytjbmkdbgobmclaa
open Go.RowKit Go.Shelf

theorem lList_o (xs : List Int) (a : Option Addr) (cap : Nat) (hx : xs.length ≤ 1000000) : Cx Try.prog 18 [.slice a xs.length cap] [] (KSl a xs.length cap encI xs) (fun v : Value => v) (fun v => [ow v 3 1 xs.length (xs.flatMap encI)]) (fun _ => KTrue) := by
  refine Cx_of Try.func18 rfl Try.ntmps18 rfl fun w0 M0 => ?_
  refine JC_seq ?_
  refine JC_region ?_
  refine JL_pd rfl (det_assign rfl) ?_
  refine JL_nil ?_
  refine JE_seq ?_
  refine JC_seq ?_
  refine JC_region ?_
  refine JL_pd rfl (det_move rfl) ?_
  -- stop: op  1 t4 := (call (Call (builtin append) ((slice none 0 0) t3) (22 22)))   <0>   11
  refine JL_nilS 3 1 ?_
  refine JL_step rfl rfl rfl (jo_appendK (e := encI) el_22 rfl rfl encI_one (by simpa using hx)) fun v => ?_
  refine JL_pd rfl (det_assign rfl) ?_
  refine JL_nil ?_
  refine JE_seq ?_
  refine JC_ret ?_
  -- stop: out
  simp only [Nat.zero_add, List.nil_append]
  refine JE_out (.inl rfl) v (results1 Try.results18 (res_tmp rfl)) rfl (List.Perm.refl _) (fun _ _ => trivial)
/-- A weight in two parts. -/
def parts (ws : List Int) (k : Nat) (n : Int) : List Int := ws.take k ++ [n, ws.getD k 0 - n] ++ ws.drop (k + 1)
theorem ws_cut {ws : List Int} {k : Nat} (hk : k < ws.length) : ws = ws.take k ++ [ws[k]] ++ ws.drop (k + 1) := by
  conv => lhs; rw [← List.take_append_drop k ws, List.drop_eq_getElem_cons hk]
  simp
theorem parts_len {ws : List Int} {k : Nat} (hk : k < ws.length) (n : Int) : (parts ws k n).length = ws.length + 1 := by
  unfold parts
  rw [List.length_append, List.length_append, List.length_take, List.length_drop]
  simp only [List.length_cons, List.length_nil]
  omega
theorem parts_sum {ws : List Int} {k : Nat} (hk : k < ws.length) (n : Int) : (parts ws k n).sum = ws.sum := by
  conv => rhs; rw [ws_cut hk]
  unfold parts
  rw [List.sum_append, List.sum_append, List.sum_append, List.sum_append, List.getD_eq_getElem?_getD, List.getElem?_eq_getElem hk]
  simp
  omega
theorem parts_lo {ws : List Int} {k : Nat} (hk : k < ws.length) (n : Int) {j : Nat} (hj : j ≤ k) : (parts ws k n).take j = ws.take j := by
  unfold parts
  rw [List.append_assoc, List.take_append_of_le_length (by rw [List.length_take]; omega), List.take_take, Nat.min_eq_left hj]
theorem parts_hi {ws : List Int} {k : Nat} (hk : k < ws.length) (n : Int) {j : Nat} (hj : k + 2 ≤ j) : ((parts ws k n).take j).sum = (ws.take (j - 1)).sum := by
  have hl : (ws.take k ++ [n, ws.getD k 0 - n]).length = k + 2 := by rw [List.length_append, List.length_take]; simp; omega
  have hl2 : (ws.take k ++ [ws[k]]).length = k + 1 := by rw [List.length_append, List.length_take]; simp; omega
  have hc : ws.take (j - 1) = (ws.take k ++ [ws[k]] ++ ws.drop (k + 1)).take (j - 1) := congrArg _ (ws_cut hk)
  rw [hc]
  unfold parts
  rw [List.take_append (l₁ := ws.take k ++ [n, ws.getD k 0 - n]), List.take_append (l₁ := ws.take k ++ [ws[k]]), hl, hl2, List.take_of_length_le (l := ws.take k ++ [n, ws.getD k 0 - n]) (by omega), List.take_of_length_le (l := ws.take k ++ [ws[k]]) (by omega), show j - (k + 2) = j - 1 - (k + 1) from by omega, List.sum_append, List.sum_append, List.sum_append, List.sum_append, List.getD_eq_getElem?_getD, List.getElem?_eq_getElem hk]
  simp
  omega
theorem parts_ok {sum : Int} {ws : List Int} {k : Nat} (hk : k < ws.length) (hn : ws.length ≤ 9) (h : shareE sum ws = 0) {n : Int} (h0 : 0 ≤ n) (h1 : n ≤ ws[k]) : shareE sum (parts ws k n) = 0 := by
  obtain ⟨V, hW⟩ := share_of h
  have hw := V.w _ (List.getElem_mem hk)
  have hall : (parts ws k n).all (fun n => inI n 0 1000) = true := by
    refine List.all_eq_true.2 fun x hx => inI_iff.2 ?_
    unfold parts at hx
    rcases List.mem_append.1 hx with hx | hx
    · rcases List.mem_append.1 hx with hx | hx
      · exact V.w x (List.mem_of_mem_take hx)
      · rw [List.getD_eq_getElem?_getD, List.getElem?_eq_getElem hk] at hx
        simp at hx
        omega
    · exact V.w x (List.mem_of_mem_drop hx)
  unfold shareE
  rw [if_neg (by rw [parts_len hk]; omega), if_neg (by rw [hall, inI_iff.2 ⟨V.s0, V.s1⟩]; decide), parts_sum hk, if_neg hW]
theorem parts_paid_lo {ws : List Int} {k : Nat} (hk : k < ws.length) (sum n : Int) {j : Nat} (hj : j ≤ k) : paidV sum (parts ws k n) j = paidV sum ws j := by
  unfold paidV; rw [parts_lo hk n hj, parts_sum hk]
theorem parts_paid_hi {ws : List Int} {k : Nat} (hk : k < ws.length) (sum n : Int) {j : Nat} (hj : k + 2 ≤ j) : paidV sum (parts ws k n) j = paidV sum ws (j - 1) := by
  unfold paidV; rw [parts_hi hk n hj, parts_sum hk]
set_option maxRecDepth 100000 in
set_option maxHeartbeats 2000000 in
theorem BillParts_j (sum : Int) (a : Option Addr) (c : Nat) (ws : List Int) (wn pn : Nat) (hwn : wn ≤ 255) (hpn : pn ≤ 65535) : Cv Try.prog 7 [I sum, .slice a ws.length c, .int .u8 wn, .int .u16 pn] (KSl a ws.length c encI ws) (.bool true) := by
  refine Cx_of Try.func7 rfl Try.ntmps7 rfl fun w0 M0 => ?_
  refine JC_seq ?_
  refine JC_region ?_
  refine JL_pd rfl (det_assign rfl) ?_
  refine JL_nil ?_
  refine JE_seq ?_
  refine JC_seq ?_
  refine JC_seq ?_
  refine JC_region ?_
  refine JL_pd rfl (det_move rfl) ?_
  refine JL_pd rfl (det_len rfl Try.runUnderlying22) ?_
  refine JL_pd rfl (det_gtr rfl rfl) ?_
  refine JL_pd rfl (det_move rfl) ?_
  -- stop: guard 3
  by_cases h1 : 9 < ws.length
  · refine JL_is (d0 := 20) true rfl (by exact decide_eq_true (by omega)) (fun g1 => ?_)
    refine JL_skip rfl rfl g1 rfl ?_
    refine JL_skip rfl rfl g1 rfl ?_
    refine JL_skip rfl rfl g1 rfl ?_
    refine JL_skip rfl rfl g1 rfl ?_
    refine JL_pd rfl (det_pick_t rfl g1 rfl) ?_
    refine JL_nil ?_
    refine JE_seq ?_
    refine JC_condT rfl rfl ?_
    refine JC_seq ?_
    refine JC_region ?_
    refine JL_step rfl rfl rfl (jo_callv rfl rfl Try.call16 rfl (awake_j)) fun _ => ?_
    refine JL_pd rfl (det_assign rfl) ?_
    refine JL_nil ?_
    refine JE_seq ?_
    refine JC_ret ?_
    refine JE_seq_ret ?_
    -- stop: out
    refine JE_out (.inl rfl) () (results1 Try.results7 (res_tmp rfl)) rfl (List.Perm.refl _) (fun _ _ => trivial)
  · have hlj := lList_j ws a c (by omega)
    have hfj := ShareFault_j sum a c ws (by omega)
    refine JL_is (d0 := 20) false rfl (by exact decide_eq_false (by omega)) (fun g1 => ?_)
    refine JL_guard rfl rfl g1 ?_
    refine JL_pd rfl (det_move rfl) ?_
    refine JL_guard rfl rfl g1 ?_
    refine JL_pd rfl (det_move rfl) ?_
    refine JL_guard rfl rfl g1 ?_
    refine JL_step rfl rfl rfl (jo_callv rfl rfl Try.call19 rfl (hfj)) fun _ => ?_
    refine JL_guard rfl rfl g1 ?_
    refine JL_pd rfl (det_neq rfl rfl) ?_
    refine JL_pd rfl (det_pick_f rfl g1 rfl) ?_
    refine JL_nil ?_
    refine JE_seq ?_
    -- stop: cond
    refine JC_ifn rfl (fun h2 => ?_) (fun h2 => ?_)
    · refine JC_seq ?_
      refine JC_region ?_
      refine JL_step rfl rfl rfl (jo_callv rfl rfl Try.call16 rfl (awake_j)) fun _ => ?_
      refine JL_pd rfl (det_assign rfl) ?_
      refine JL_nil ?_
      refine JE_seq ?_
      refine JC_ret ?_
      refine JE_seq_ret ?_
      -- stop: out
      refine JE_out (.inl rfl) () (results1 Try.results7 (res_tmp rfl)) rfl (List.Perm.refl _) (fun _ _ => trivial)
    · have hE : shareE sum ws = 0 := h2
      obtain ⟨V, hW⟩ := share_of hE
      have hne : ws.length ≠ 0 := fun e => hW (by rw [List.eq_nil_of_length_eq_zero e]; rfl)
      obtain ⟨k, hkd⟩ : ∃ k : Nat, wn % ws.length = k := ⟨_, rfl⟩
      have hk : k < ws.length := by rw [← hkd]; exact Nat.mod_lt _ (by omega)
      have hrem : (wn : Int).tmod (ws.length : Int) = (k : Int) := by rw [Int.tmod_eq_emod_of_nonneg (by omega), ← hkd]; rfl
      have hwk := V.w _ (List.getElem_mem hk)
      obtain ⟨n, hnd⟩ : ∃ n : Int, (pn : Int).tmod (ws[k] + 1) = n := ⟨_, rfl⟩
      have hn0 : 0 ≤ n ∧ n ≤ ws[k] := by
        rw [← hnd, Int.tmod_eq_emod_of_nonneg (by omega)]
        have := Int.emod_nonneg (pn : Int) (show ws[k] + 1 ≠ 0 by omega)
        have := Int.emod_lt_of_pos (pn : Int) (show 0 < ws[k] + 1 by omega)
        omega
      refine JC_skip ?_
      refine JE_seq ?_
      refine JC_seq ?_
      refine JC_region ?_
      refine JL_pd rfl (det_move rfl) ?_
      refine JL_pd rfl (det_convI rfl Try.runUnderlying5 Try.runUnderlying3 (i64_wrap ⟨by omega, by omega⟩)) ?_
      refine JL_pd rfl (det_move rfl) ?_
      refine JL_pd rfl (det_len rfl Try.runUnderlying22) ?_
      refine JL_pd rfl (det_rem rfl rfl (by omega)) ?_
      refine JL_pd rfl (det_assign rfl) ?_
      refine JL_nil ?_
      refine JE_seq ?_
      refine JC_seq ?_
      refine JC_region ?_
      refine JL_pd rfl (det_move rfl) ?_
      refine JL_pd rfl (det_convI rfl Try.runUnderlying65 Try.runUnderlying3 (i64_wrap ⟨by omega, by omega⟩)) ?_
      refine JL_pd rfl (det_move rfl) ?_
      refine JL_pd rfl (det_move rfl) ?_
      refine JL_dt rfl (det_indexAddr (i := k) rfl rfl hrem (by omega) Try.runUnderlying22 Try.sizeOf3) ?_
      refine JL_dt rfl (det_loadE rfl (by first | assumption | omega | decide) Try.isAgg3 rfl rfl) ?_
      refine JL_pd rfl (det_add rfl rfl ⟨by omega, by omega⟩) ?_
      refine JL_pd rfl (det_rem rfl rfl (by omega)) ?_
      refine JL_pd rfl (det_assign rfl) ?_
      refine JL_nil ?_
      refine JE_seq ?_
      refine JC_seq ?_
      -- stop: draw
      rw [hrem, hnd]
      refine JC_pure (p := ws.length ≤ c) (by intro w h; exact (Knows.know (F := KSl a ws.length c encI ws) w h).1.1) fun hgc => ?_
      refine JC_know (R' := KAnd (KSl (dropA a (k + 1) c 1) (ws.length - (k + 1)) (c - (k + 1)) encI (ws.drop (k + 1))) _) (fun w h => ⟨KSl_drop (Knows.know (F := KSl a ws.length c encI ws) w h) (by omega), h⟩) ?_
      have hpl := parts_len hk n
      have hlo := lList_o (ws.take k) a c (by rw [List.length_take]; omega)
      rw [List.length_take, Nat.min_eq_left (by omega)] at hlo
      have hlo2 := hlo.mono (pre' := KSl a ws.length c encI ws) (fun w h => KSl_take h (by omega)) (fun _ _ h => h)
      have hgd : ws.getD k 0 = ws[k] := by rw [List.getD_eq_getElem?_getD, List.getElem?_eq_getElem hk]; rfl
      refine JC_cutF (γ := Value) (fun _ => True) (fun ov => [(11, ov)]) (fun ov => [ow ov 3 1 (parts ws k n).length ((parts ws k n).flatMap encI)]) [] (fun K hK => ?_) (fun ov _ => ?_)
      · refine JC_draw [] (by kernel_rfl) ?_
        refine JA_pd (i := 0) rfl (by kernel_rfl) rfl rfl (det_move rfl) ?_
        refine JA_pd (i := 1) rfl (by kernel_rfl) rfl rfl (det_move rfl) ?_
        refine JA_pd (i := 2) rfl (by kernel_rfl) rfl rfl (det_sliceK k rfl rfl rfl (by omega) Try.runUnderlying22 Try.sizeOf3) ?_
        refine JA_pd (i := 4) rfl (by kernel_rfl) rfl rfl (det_move rfl) ?_
        refine JA_pd (i := 5) rfl (by kernel_rfl) rfl rfl (det_move rfl) ?_
        refine JA_pd (i := 6) rfl (by kernel_rfl) rfl rfl (det_move rfl) ?_
        refine JA_dt (i := 7) rfl (by kernel_rfl) (by kernel_rfl) rfl rfl (det_indexAddr (i := k) rfl rfl rfl (by omega) Try.runUnderlying22 Try.sizeOf3) ?_
        refine JA_dt (i := 8) rfl (by kernel_rfl) (by kernel_rfl) rfl rfl (det_loadE rfl (by first | assumption | omega | decide) Try.isAgg3 rfl rfl) ?_
        refine JA_pd (i := 9) rfl (by kernel_rfl) rfl rfl (det_move rfl) ?_
        refine JA_pd (i := 10) rfl (by kernel_rfl) rfl rfl (det_sub rfl rfl ⟨by omega, by omega⟩) ?_
        refine JA_pd (i := 13) rfl (by kernel_rfl) rfl rfl (det_move rfl) ?_
        refine JA_pd (i := 14) rfl (by kernel_rfl) rfl rfl (det_move rfl) ?_
        refine JA_pd (i := 15) rfl (by kernel_rfl) rfl rfl (det_add rfl rfl ⟨by omega, by omega⟩) ?_
        refine JA_pd (i := 16) rfl (by kernel_rfl) rfl rfl (det_sliceF (k + 1) rfl rfl (by omega) (by omega) Try.runUnderlying22 Try.sizeOf3) ?_
        refine JA_ready (rs := [3, 11]) (by kernel_rfl) rfl ?_
        refine JAl_cons (i := 3) rfl rfl (jo_call rfl rfl Try.call18 rfl (hlo2)) (fun _ => ⟨hsub_drop 1 rfl, fun _ h => h.2⟩) (fun x43 => ?_) ?_
        · refine JA_one (i := 11) (by kernel_rfl) rfl rfl (jo_buildSlice rfl (bsl_22_2_0_1 _ _)) (fun _ => ⟨hsub_drop 1 rfl, fun _ h => h⟩) fun b51 => ?_
          refine JA_lit (enc := encI) b51 2 [n, ws[k] - n] noFp rfl rfl (by decide) ?_
          refine JA_oneH (i := 12) (by kernel_rfl) rfl rfl (jo_appendK (e := encI) (ys := [n, ws[k] - n]) el_22 rfl rfl encI_one (by omega)) (fun _ => ⟨HIn.sub, Knows.know⟩) fun b52 => ?_
          refine JA_oneH (i := 17) (by kernel_rfl) rfl rfl (jo_appendK (e := encI) el_22 rfl rfl encI_one (by omega)) (fun _ => ⟨HIn.sub, Knows.know⟩) fun b57 => ?_
          refine JA_pd (i := 18) rfl (by kernel_rfl) rfl rfl (det_assign rfl) ?_
          refine JA_done (by kernel_rfl) ?_
          exact JE_cutF hK b57 trivial (stsub_cons rfl stsub_nil) (ht_ow (by omega) (by unfold parts; rw [hgd, List.flatMap_append, List.flatMap_append]) ht_nil)
        refine JAl_cons (i := 11) rfl rfl (jo_buildSlice rfl (bsl_22_2_0_1 _ _)) (fun _ => ⟨hsub_drop 1 rfl, fun _ h => h⟩) (fun b51 => ?_) ?_
        · refine JA_one (i := 3) (by kernel_rfl) rfl rfl (jo_call rfl rfl Try.call18 rfl (hlo2)) (fun _ => ⟨hsub_drop 1 rfl, fun _ h => h.2⟩) fun x43 => ?_
          refine JA_lit (enc := encI) b51 2 [n, ws[k] - n] noFp rfl rfl (by decide) ?_
          refine JA_oneH (i := 12) (by kernel_rfl) rfl rfl (jo_appendK (e := encI) (ys := [n, ws[k] - n]) el_22 rfl rfl encI_one (by omega)) (fun _ => ⟨HIn.sub, Knows.know⟩) fun b52 => ?_
          refine JA_oneH (i := 17) (by kernel_rfl) rfl rfl (jo_appendK (e := encI) el_22 rfl rfl encI_one (by omega)) (fun _ => ⟨HIn.sub, Knows.know⟩) fun b57 => ?_
          refine JA_pd (i := 18) rfl (by kernel_rfl) rfl rfl (det_assign rfl) ?_
          refine JA_done (by kernel_rfl) ?_
          exact JE_cutF hK b57 trivial (stsub_cons rfl stsub_nil) (ht_ow (by omega) (by unfold parts; rw [hgd, List.flatMap_append, List.flatMap_append]) ht_nil)
        exact JAl_nil
      dsimp only [List.cons_append, List.nil_append]
      refine JC_seq ?_
      refine JC_region ?_
      refine JL_pd rfl (det_move rfl) ?_
      refine JL_pd rfl (det_move rfl) ?_
      -- stop: op  2 t61 := (call (Call (value f18) (t60) (22)))   <1>   130
      refine JL_slice (enc := encI) (v := ov) (parts ws k n) noFp rfl rfl ?_
      rintro oa oc rfl
      have hEo := parts_ok hk (by omega) hE hn0.1 hn0.2
      obtain ⟨Vo, hWo⟩ := share_of hEo
      have hs1 := sharesV_len sum ws
      have hs2 := sharesV_len sum (parts ws k n)
      refine JL_step rfl rfl rfl (jo_call rfl rfl Try.call18 rfl (hlj)) fun x61 => ?_
      -- stop: op  3 t62 := (call (Call (value f17) (t59 t61) (3 22)))   <0 2 2>   130
      refine JL_step rfl rfl rfl (jo_call rfl rfl Try.call17 rfl (Share_jv sum x61.1 x61.2 ws hE)) fun xs => ?_
      refine JL_pd rfl (det_move rfl) ?_
      refine JL_pd rfl (det_extract rfl rfl) ?_
      refine JL_pd rfl (det_extract rfl rfl) ?_
      refine JL_pd rfl (det_assign rfl) ?_
      refine JL_pd rfl (det_assign rfl) ?_
      refine JL_nil ?_
      refine JE_seq ?_
      refine JC_seq ?_
      refine JC_region ?_
      refine JL_pd rfl (det_move rfl) ?_
      refine JL_pd rfl (det_move rfl) ?_
      -- stop: op  2 t68 := (call (Call (value f17) (t66 t67) (3 22)))   <0 1>   131
      refine JL_step rfl rfl rfl (jo_call rfl rfl Try.call17 rfl (Share_jv sum oa oc (parts ws k n) hEo)) fun xt => ?_
      refine JL_pd rfl (det_move rfl) ?_
      refine JL_pd rfl (det_extract rfl rfl) ?_
      refine JL_pd rfl (det_extract rfl rfl) ?_
      refine JL_pd rfl (det_assign rfl) ?_
      refine JL_pd rfl (det_assign rfl) ?_
      refine JL_nil ?_
      refine JE_seq ?_
      refine JC_seq ?_
      refine JC_seq ?_
      refine JC_region ?_
      refine JL_pd rfl (det_move rfl) ?_
      refine JL_pd rfl (det_neq rfl rfl) ?_
      refine JL_pd rfl (det_move rfl) ?_
      -- stop: guard 2
      skip
      refine JL_is (d0 := 73) false rfl (by (first | rfl | exact congrArg not (decide_eq_true (by omega)))) (fun g1 => ?_)
      refine JL_guard rfl rfl g1 ?_
      refine JL_pd rfl (det_move rfl) ?_
      refine JL_guard rfl rfl g1 ?_
      refine JL_pd rfl (det_neq rfl rfl) ?_
      refine JL_pd rfl (det_pick_f rfl g1 rfl) ?_
      refine JL_pd rfl (det_move rfl) ?_
      refine JL_is (d0 := 77) false rfl (by (first | rfl | exact congrArg not (decide_eq_true (by omega)))) (fun g2 => ?_)
      refine JL_guard rfl rfl g2 ?_
      refine JL_pd rfl (det_move rfl) ?_
      refine JL_guard rfl rfl g2 ?_
      refine JL_pd rfl (det_len rfl Try.runUnderlying22) ?_
      refine JL_guard rfl rfl g2 ?_
      refine JL_pd rfl (det_move rfl) ?_
      refine JL_guard rfl rfl g2 ?_
      refine JL_pd rfl (det_len rfl Try.runUnderlying22) ?_
      refine JL_guard rfl rfl g2 ?_
      refine JL_pd rfl (det_neq rfl rfl) ?_
      refine JL_pd rfl (det_pick_f rfl g2 rfl) ?_
      refine JL_pd rfl (det_move rfl) ?_
      refine JL_is (d0 := 84) false rfl (by (first | rfl | exact congrArg not (decide_eq_true (by omega)))) (fun g3 => ?_)
      refine JL_guard rfl rfl g3 ?_
      refine JL_pd rfl (det_move rfl) ?_
      refine JL_guard rfl rfl g3 ?_
      refine JL_pd rfl (det_len rfl Try.runUnderlying22) ?_
      refine JL_guard rfl rfl g3 ?_
      refine JL_pd rfl (det_move rfl) ?_
      refine JL_guard rfl rfl g3 ?_
      refine JL_pd rfl (det_len rfl Try.runUnderlying22) ?_
      refine JL_guard rfl rfl g3 ?_
      refine JL_pd rfl (det_add rfl rfl ⟨by omega, by omega⟩) ?_
      refine JL_guard rfl rfl g3 ?_
      refine JL_pd rfl (det_neq rfl rfl) ?_
      refine JL_pd rfl (det_pick_f rfl g3 rfl) ?_
      refine JL_nil ?_
      refine JE_seq ?_
      -- stop: cond
      refine JC_ifn rfl (fun h3 => ?_) (fun h3 => ?_)
      · exact absurd (by omega) h3
      refine JC_skip ?_
      refine JE_seq ?_
      refine JC_seq ?_
      refine JC_seq ?_
      refine JC_region ?_
      refine JL_pd rfl (det_assign rfl) ?_
      refine JL_nil ?_
      refine JE_seq ?_
      refine JC_block ?_
      -- stop: loop
      refine JC_loopF (γ := Nat) (fun i => i ≤ ws.length) (fun i => [(16, I i)]) (fun _ => []) (fun i => ws.length - i) 0 (Nat.zero_le _) (stsub_consI rfl rfl stsub_nil) ht_nil ?_
      intro i hi K hK
      dsimp only [List.cons_append, List.nil_append]
      refine JC_seq ?_
      refine JC_seq ?_
      refine JC_region ?_
      refine JL_pd rfl (det_move rfl) ?_
      refine JL_pd rfl (det_move rfl) ?_
      refine JL_pd rfl (det_len rfl Try.runUnderlying22) ?_
      refine JL_pd rfl (det_lss rfl rfl) ?_
      refine JL_nil ?_
      refine JE_seq ?_
      -- stop: cond
      refine JC_if rfl (fun h4 => ?_) (fun h4 => ?_)
      · have hi2 : i < (sharesV sum ws).length := by omega
        have hsi := sharesV_get hi2
        refine JC_skip ?_
        refine JE_seq ?_
        refine JC_seq ?_
        refine JC_block ?_
        refine JC_block ?_
        refine JC_seq ?_
        refine JC_seq ?_
        refine JC_draw [] (by kernel_rfl) ?_
        refine JA_pd (i := 0) rfl (by kernel_rfl) rfl rfl (det_move rfl) ?_
        refine JA_pd (i := 1) rfl (by kernel_rfl) rfl rfl (det_move rfl) ?_
        refine JA_pd (i := 2) rfl (by kernel_rfl) rfl rfl (det_lss rfl rfl) ?_
        refine JA_pd (i := 3) rfl (by kernel_rfl) rfl rfl (det_move rfl) ?_
        -- stop: guard 3
        rcases Nat.lt_trichotomy i k with h5 | h5 | h5
        · have hti := sharesV_get (show i < (sharesV sum (parts ws k n)).length by omega)
          rw [parts_paid_lo hk sum n (by omega), parts_paid_lo hk sum n (by omega)] at hti
          refine JA_is (d0 := 102) true rfl (by exact decide_eq_true (by omega)) (fun g4 => ?_)
          refine JA_gpd (i := 4) rfl (by kernel_rfl) rfl rfl rfl rfl g4 (det_move rfl) ?_
          refine JA_gpd (i := 5) rfl (by kernel_rfl) rfl rfl rfl rfl g4 (det_move rfl) ?_
          refine JA_gdt (i := 6) rfl (by kernel_rfl) (by kernel_rfl) rfl rfl rfl rfl g4 (det_indexAddr rfl rfl (by first | rfl | omega) (by first | assumption | omega | decide) Try.runUnderlying22 Try.sizeOf3) ?_
          refine JA_gdt (i := 7) rfl (by kernel_rfl) (by kernel_rfl) rfl rfl rfl rfl g4 (det_loadE rfl (by first | assumption | omega | decide) Try.isAgg3 rfl rfl) ?_
          refine JA_gpd (i := 8) rfl (by kernel_rfl) rfl rfl rfl rfl g4 (det_move rfl) ?_
          refine JA_gpd (i := 9) rfl (by kernel_rfl) rfl rfl rfl rfl g4 (det_move rfl) ?_
          refine JA_gdt (i := 10) rfl (by kernel_rfl) (by kernel_rfl) rfl rfl rfl rfl g4 (det_indexAddr rfl rfl (by first | rfl | omega) (by first | assumption | omega | decide) Try.runUnderlying22 Try.sizeOf3) ?_
          refine JA_gdt (i := 11) rfl (by kernel_rfl) (by kernel_rfl) rfl rfl rfl rfl g4 (det_loadE rfl (by first | assumption | omega | decide) Try.isAgg3 rfl rfl) ?_
          refine JA_gpd (i := 12) rfl (by kernel_rfl) rfl rfl rfl rfl g4 (det_neq rfl rfl) ?_
          refine JA_pd (i := 13) rfl (by kernel_rfl) rfl rfl (det_pick_t rfl g4 rfl) ?_
          refine JA_pd (i := 14) rfl (by kernel_rfl) rfl rfl (det_assign rfl) ?_
          refine JA_done (by kernel_rfl) ?_
          refine JE_seq ?_
          -- stop: cond
          refine JC_ifn rfl (fun h6 => ?_) (fun h6 => ?_)
          · exact absurd (by omega) h6
          refine JC_seq ?_
          refine JC_draw [] (by kernel_rfl) ?_
          refine JA_pd (i := 0) rfl (by kernel_rfl) rfl rfl (det_move rfl) ?_
          refine JA_pd (i := 1) rfl (by kernel_rfl) rfl rfl (det_move rfl) ?_
          refine JA_pd (i := 2) rfl (by kernel_rfl) rfl rfl (det_gtr rfl rfl) ?_
          refine JA_pd (i := 3) rfl (by kernel_rfl) rfl rfl (det_move rfl) ?_
          -- stop: guard 3
          refine JA_is (d0 := 116) false rfl (by exact decide_eq_false (by omega)) (fun g5 => ?_)
          refine JA_skip (i := 4) rfl (by kernel_rfl) rfl rfl rfl rfl g5 ?_
          refine JA_skip (i := 5) rfl (by kernel_rfl) rfl rfl rfl rfl g5 ?_
          refine JA_skip (i := 6) rfl (by kernel_rfl) rfl rfl rfl rfl g5 ?_
          refine JA_skip (i := 7) rfl (by kernel_rfl) rfl rfl rfl rfl g5 ?_
          refine JA_skip (i := 8) rfl (by kernel_rfl) rfl rfl rfl rfl g5 ?_
          refine JA_skip (i := 9) rfl (by kernel_rfl) rfl rfl rfl rfl g5 ?_
          refine JA_skip (i := 10) rfl (by kernel_rfl) rfl rfl rfl rfl g5 ?_
          refine JA_skip (i := 11) rfl (by kernel_rfl) rfl rfl rfl rfl g5 ?_
          refine JA_skip (i := 12) rfl (by kernel_rfl) rfl rfl rfl rfl g5 ?_
          refine JA_skip (i := 13) rfl (by kernel_rfl) rfl rfl rfl rfl g5 ?_
          refine JA_pd (i := 14) rfl (by kernel_rfl) rfl rfl (det_pick_f rfl g5 rfl) ?_
          refine JA_pd (i := 15) rfl (by kernel_rfl) rfl rfl (det_assign rfl) ?_
          refine JA_done (by kernel_rfl) ?_
          refine JE_seq ?_
          refine JC_condF rfl rfl ?_
          refine JC_draw [] (by kernel_rfl) ?_
          refine JA_pd (i := 0) rfl (by kernel_rfl) rfl rfl (det_move rfl) ?_
          refine JA_pd (i := 1) rfl (by kernel_rfl) rfl rfl (det_move rfl) ?_
          refine JA_pd (i := 2) rfl (by kernel_rfl) rfl rfl (det_eql rfl rfl) ?_
          refine JA_pd (i := 3) rfl (by kernel_rfl) rfl rfl (det_move rfl) ?_
          -- stop: guard 3
          refine JA_is (d0 := 131) false rfl (by exact decide_eq_false (by omega)) (fun g6 => ?_)
          refine JA_skip (i := 4) rfl (by kernel_rfl) rfl rfl rfl rfl g6 ?_
          refine JA_skip (i := 5) rfl (by kernel_rfl) rfl rfl rfl rfl g6 ?_
          refine JA_skip (i := 6) rfl (by kernel_rfl) rfl rfl rfl rfl g6 ?_
          refine JA_skip (i := 7) rfl (by kernel_rfl) rfl rfl rfl rfl g6 ?_
          refine JA_skip (i := 8) rfl (by kernel_rfl) rfl rfl rfl rfl g6 ?_
          refine JA_skip (i := 9) rfl (by kernel_rfl) rfl rfl rfl rfl g6 ?_
          refine JA_skip (i := 10) rfl (by kernel_rfl) rfl rfl rfl rfl g6 ?_
          refine JA_skip (i := 11) rfl (by kernel_rfl) rfl rfl rfl rfl g6 ?_
          refine JA_skip (i := 12) rfl (by kernel_rfl) rfl rfl rfl rfl g6 ?_
          refine JA_skip (i := 13) rfl (by kernel_rfl) rfl rfl rfl rfl g6 ?_
          refine JA_skip (i := 14) rfl (by kernel_rfl) rfl rfl rfl rfl g6 ?_
          refine JA_skip (i := 15) rfl (by kernel_rfl) rfl rfl rfl rfl g6 ?_
          refine JA_skip (i := 16) rfl (by kernel_rfl) rfl rfl rfl rfl g6 ?_
          refine JA_skip (i := 17) rfl (by kernel_rfl) rfl rfl rfl rfl g6 ?_
          refine JA_skip (i := 18) rfl (by kernel_rfl) rfl rfl rfl rfl g6 ?_
          refine JA_pd (i := 19) rfl (by kernel_rfl) rfl rfl (det_pick_f rfl g6 rfl) ?_
          refine JA_pd (i := 20) rfl (by kernel_rfl) rfl rfl (det_assign rfl) ?_
          refine JA_done (by kernel_rfl) ?_
          refine JE_seq ?_
          refine JC_condF rfl rfl ?_
          refine JC_skip ?_
          refine JE_block ?_
          refine JE_block ?_
          refine JE_seq ?_
          refine JC_region ?_
          refine JL_pd rfl (det_move rfl) ?_
          refine JL_pd rfl (det_add rfl rfl ⟨by omega, by omega⟩) ?_
          refine JL_pd rfl (det_assign rfl) ?_
          refine JL_nil ?_
          -- stop: end
          refine JE_roundF hK (i + 1) (by omega) (by omega) (stsub_consI rfl (by omega) stsub_nil) ht_nil
        · subst h5
          have hti := sharesV_get (show i < (sharesV sum (parts ws i n)).length by omega)
          have htj := sharesV_get (show i + 1 < (sharesV sum (parts ws i n)).length by omega)
          rw [parts_paid_lo hk sum n (Nat.le_refl _)] at hti
          rw [parts_paid_hi hk sum n (Nat.le_refl _), show i + 1 + 1 - 1 = i + 1 from by omega] at htj
          have pb := paid_bd Vo hWo (i + 1)
          have pb2 := paid_bd V hW i
          have pb3 := paid_bd V hW (i + 1)
          have pb4 := V.s1
          refine JA_is (d0 := 102) false rfl (by exact decide_eq_false (by omega)) (fun g4 => ?_)
          refine JA_skip (i := 4) rfl (by kernel_rfl) rfl rfl rfl rfl g4 ?_
          refine JA_skip (i := 5) rfl (by kernel_rfl) rfl rfl rfl rfl g4 ?_
          refine JA_skip (i := 6) rfl (by kernel_rfl) rfl rfl rfl rfl g4 ?_
          refine JA_skip (i := 7) rfl (by kernel_rfl) rfl rfl rfl rfl g4 ?_
          refine JA_skip (i := 8) rfl (by kernel_rfl) rfl rfl rfl rfl g4 ?_
          refine JA_skip (i := 9) rfl (by kernel_rfl) rfl rfl rfl rfl g4 ?_
          refine JA_skip (i := 10) rfl (by kernel_rfl) rfl rfl rfl rfl g4 ?_
          refine JA_skip (i := 11) rfl (by kernel_rfl) rfl rfl rfl rfl g4 ?_
          refine JA_skip (i := 12) rfl (by kernel_rfl) rfl rfl rfl rfl g4 ?_
          refine JA_pd (i := 13) rfl (by kernel_rfl) rfl rfl (det_pick_f rfl g4 rfl) ?_
          refine JA_pd (i := 14) rfl (by kernel_rfl) rfl rfl (det_assign rfl) ?_
          refine JA_done (by kernel_rfl) ?_
          refine JE_seq ?_
          refine JC_condF rfl rfl ?_
          refine JC_seq ?_
          refine JC_draw [] (by kernel_rfl) ?_
          refine JA_pd (i := 0) rfl (by kernel_rfl) rfl rfl (det_move rfl) ?_
          refine JA_pd (i := 1) rfl (by kernel_rfl) rfl rfl (det_move rfl) ?_
          refine JA_pd (i := 2) rfl (by kernel_rfl) rfl rfl (det_gtr rfl rfl) ?_
          refine JA_pd (i := 3) rfl (by kernel_rfl) rfl rfl (det_move rfl) ?_
          -- stop: guard 3
          refine JA_is (d0 := 116) false rfl (by exact decide_eq_false (by omega)) (fun g5 => ?_)
          refine JA_skip (i := 4) rfl (by kernel_rfl) rfl rfl rfl rfl g5 ?_
          refine JA_skip (i := 5) rfl (by kernel_rfl) rfl rfl rfl rfl g5 ?_
          refine JA_skip (i := 6) rfl (by kernel_rfl) rfl rfl rfl rfl g5 ?_
          refine JA_skip (i := 7) rfl (by kernel_rfl) rfl rfl rfl rfl g5 ?_
          refine JA_skip (i := 8) rfl (by kernel_rfl) rfl rfl rfl rfl g5 ?_
          refine JA_skip (i := 9) rfl (by kernel_rfl) rfl rfl rfl rfl g5 ?_
          refine JA_skip (i := 10) rfl (by kernel_rfl) rfl rfl rfl rfl g5 ?_
          refine JA_skip (i := 11) rfl (by kernel_rfl) rfl rfl rfl rfl g5 ?_
          refine JA_skip (i := 12) rfl (by kernel_rfl) rfl rfl rfl rfl g5 ?_
          refine JA_skip (i := 13) rfl (by kernel_rfl) rfl rfl rfl rfl g5 ?_
          refine JA_pd (i := 14) rfl (by kernel_rfl) rfl rfl (det_pick_f rfl g5 rfl) ?_
          refine JA_pd (i := 15) rfl (by kernel_rfl) rfl rfl (det_assign rfl) ?_
          refine JA_done (by kernel_rfl) ?_
          refine JE_seq ?_
          refine JC_condF rfl rfl ?_
          refine JC_draw [] (by kernel_rfl) ?_
          refine JA_pd (i := 0) rfl (by kernel_rfl) rfl rfl (det_move rfl) ?_
          refine JA_pd (i := 1) rfl (by kernel_rfl) rfl rfl (det_move rfl) ?_
          refine JA_pd (i := 2) rfl (by kernel_rfl) rfl rfl (det_eql rfl rfl) ?_
          refine JA_pd (i := 3) rfl (by kernel_rfl) rfl rfl (det_move rfl) ?_
          -- stop: guard 3
          refine JA_is (d0 := 131) true rfl (by exact decide_eq_true (by omega)) (fun g6 => ?_)
          refine JA_gpd (i := 4) rfl (by kernel_rfl) rfl rfl rfl rfl g6 (det_move rfl) ?_
          refine JA_gpd (i := 5) rfl (by kernel_rfl) rfl rfl rfl rfl g6 (det_move rfl) ?_
          refine JA_gdt (i := 6) rfl (by kernel_rfl) (by kernel_rfl) rfl rfl rfl rfl g6 (det_indexAddr rfl rfl (by first | rfl | omega) (by first | assumption | omega | decide) Try.runUnderlying22 Try.sizeOf3) ?_
          refine JA_gdt (i := 7) rfl (by kernel_rfl) (by kernel_rfl) rfl rfl rfl rfl g6 (det_loadE rfl (by first | assumption | omega | decide) Try.isAgg3 rfl rfl) ?_
          refine JA_gpd (i := 8) rfl (by kernel_rfl) rfl rfl rfl rfl g6 (det_move rfl) ?_
          refine JA_gpd (i := 9) rfl (by kernel_rfl) rfl rfl rfl rfl g6 (det_move rfl) ?_
          refine JA_gpd (i := 10) rfl (by kernel_rfl) rfl rfl rfl rfl g6 (det_add rfl rfl ⟨by omega, by omega⟩) ?_
          refine JA_gdt (i := 11) rfl (by kernel_rfl) (by kernel_rfl) rfl rfl rfl rfl g6 (det_indexAddr (i := i + 1) rfl rfl (by omega) (by omega) Try.runUnderlying22 Try.sizeOf3) ?_
          refine JA_gdt (i := 12) rfl (by kernel_rfl) (by kernel_rfl) rfl rfl rfl rfl g6 (det_loadE rfl (by first | assumption | omega | decide) Try.isAgg3 rfl rfl) ?_
          refine JA_gpd (i := 13) rfl (by kernel_rfl) rfl rfl rfl rfl g6 (det_add rfl rfl ⟨by omega, by omega⟩) ?_
          refine JA_gpd (i := 14) rfl (by kernel_rfl) rfl rfl rfl rfl g6 (det_move rfl) ?_
          refine JA_gpd (i := 15) rfl (by kernel_rfl) rfl rfl rfl rfl g6 (det_move rfl) ?_
          refine JA_gdt (i := 16) rfl (by kernel_rfl) (by kernel_rfl) rfl rfl rfl rfl g6 (det_indexAddr rfl rfl (by first | rfl | omega) (by first | assumption | omega | decide) Try.runUnderlying22 Try.sizeOf3) ?_
          refine JA_gdt (i := 17) rfl (by kernel_rfl) (by kernel_rfl) rfl rfl rfl rfl g6 (det_loadE rfl (by first | assumption | omega | decide) Try.isAgg3 rfl rfl) ?_
          refine JA_gpd (i := 18) rfl (by kernel_rfl) rfl rfl rfl rfl g6 (det_neq rfl rfl) ?_
          refine JA_pd (i := 19) rfl (by kernel_rfl) rfl rfl (det_pick_t rfl g6 rfl) ?_
          refine JA_pd (i := 20) rfl (by kernel_rfl) rfl rfl (det_assign rfl) ?_
          refine JA_done (by kernel_rfl) ?_
          refine JE_seq ?_
          -- stop: cond
          refine JC_ifn rfl (fun h6 => ?_) (fun h6 => ?_)
          · exact absurd (by omega) h6
          refine JC_skip ?_
          refine JE_block ?_
          refine JE_block ?_
          refine JE_seq ?_
          refine JC_region ?_
          refine JL_pd rfl (det_move rfl) ?_
          refine JL_pd rfl (det_add rfl rfl ⟨by omega, by omega⟩) ?_
          refine JL_pd rfl (det_assign rfl) ?_
          refine JL_nil ?_
          -- stop: end
          refine JE_roundF hK (i + 1) (by omega) (by omega) (stsub_consI rfl (by omega) stsub_nil) ht_nil
        · have hti := sharesV_get (show i + 1 < (sharesV sum (parts ws k n)).length by omega)
          rw [parts_paid_hi hk sum n (by omega), parts_paid_hi hk sum n (by omega), show i + 1 + 1 - 1 = i + 1 from by omega, show i + 1 - 1 = i from by omega] at hti
          refine JA_is (d0 := 102) false rfl (by exact decide_eq_false (by omega)) (fun g4 => ?_)
          refine JA_skip (i := 4) rfl (by kernel_rfl) rfl rfl rfl rfl g4 ?_
          refine JA_skip (i := 5) rfl (by kernel_rfl) rfl rfl rfl rfl g4 ?_
          refine JA_skip (i := 6) rfl (by kernel_rfl) rfl rfl rfl rfl g4 ?_
          refine JA_skip (i := 7) rfl (by kernel_rfl) rfl rfl rfl rfl g4 ?_
          refine JA_skip (i := 8) rfl (by kernel_rfl) rfl rfl rfl rfl g4 ?_
          refine JA_skip (i := 9) rfl (by kernel_rfl) rfl rfl rfl rfl g4 ?_
          refine JA_skip (i := 10) rfl (by kernel_rfl) rfl rfl rfl rfl g4 ?_
          refine JA_skip (i := 11) rfl (by kernel_rfl) rfl rfl rfl rfl g4 ?_
          refine JA_skip (i := 12) rfl (by kernel_rfl) rfl rfl rfl rfl g4 ?_
          refine JA_pd (i := 13) rfl (by kernel_rfl) rfl rfl (det_pick_f rfl g4 rfl) ?_
          refine JA_pd (i := 14) rfl (by kernel_rfl) rfl rfl (det_assign rfl) ?_
          refine JA_done (by kernel_rfl) ?_
          refine JE_seq ?_
          refine JC_condF rfl rfl ?_
          refine JC_seq ?_
          refine JC_draw [] (by kernel_rfl) ?_
          refine JA_pd (i := 0) rfl (by kernel_rfl) rfl rfl (det_move rfl) ?_
          refine JA_pd (i := 1) rfl (by kernel_rfl) rfl rfl (det_move rfl) ?_
          refine JA_pd (i := 2) rfl (by kernel_rfl) rfl rfl (det_gtr rfl rfl) ?_
          refine JA_pd (i := 3) rfl (by kernel_rfl) rfl rfl (det_move rfl) ?_
          -- stop: guard 3
          refine JA_is (d0 := 116) true rfl (by exact decide_eq_true (by omega)) (fun g5 => ?_)
          refine JA_gpd (i := 4) rfl (by kernel_rfl) rfl rfl rfl rfl g5 (det_move rfl) ?_
          refine JA_gpd (i := 5) rfl (by kernel_rfl) rfl rfl rfl rfl g5 (det_move rfl) ?_
          refine JA_gpd (i := 6) rfl (by kernel_rfl) rfl rfl rfl rfl g5 (det_add rfl rfl ⟨by omega, by omega⟩) ?_
          refine JA_gdt (i := 7) rfl (by kernel_rfl) (by kernel_rfl) rfl rfl rfl rfl g5 (det_indexAddr (i := i + 1) rfl rfl (by omega) (by omega) Try.runUnderlying22 Try.sizeOf3) ?_
          refine JA_gdt (i := 8) rfl (by kernel_rfl) (by kernel_rfl) rfl rfl rfl rfl g5 (det_loadE rfl (by first | assumption | omega | decide) Try.isAgg3 rfl rfl) ?_
          refine JA_gpd (i := 9) rfl (by kernel_rfl) rfl rfl rfl rfl g5 (det_move rfl) ?_
          refine JA_gpd (i := 10) rfl (by kernel_rfl) rfl rfl rfl rfl g5 (det_move rfl) ?_
          refine JA_gdt (i := 11) rfl (by kernel_rfl) (by kernel_rfl) rfl rfl rfl rfl g5 (det_indexAddr rfl rfl (by first | rfl | omega) (by first | assumption | omega | decide) Try.runUnderlying22 Try.sizeOf3) ?_
          refine JA_gdt (i := 12) rfl (by kernel_rfl) (by kernel_rfl) rfl rfl rfl rfl g5 (det_loadE rfl (by first | assumption | omega | decide) Try.isAgg3 rfl rfl) ?_
          refine JA_gpd (i := 13) rfl (by kernel_rfl) rfl rfl rfl rfl g5 (det_neq rfl rfl) ?_
          refine JA_pd (i := 14) rfl (by kernel_rfl) rfl rfl (det_pick_t rfl g5 rfl) ?_
          refine JA_pd (i := 15) rfl (by kernel_rfl) rfl rfl (det_assign rfl) ?_
          refine JA_done (by kernel_rfl) ?_
          refine JE_seq ?_
          -- stop: cond
          refine JC_ifn rfl (fun h6 => ?_) (fun h6 => ?_)
          · exact absurd (by omega) h6
          refine JC_draw [] (by kernel_rfl) ?_
          refine JA_pd (i := 0) rfl (by kernel_rfl) rfl rfl (det_move rfl) ?_
          refine JA_pd (i := 1) rfl (by kernel_rfl) rfl rfl (det_move rfl) ?_
          refine JA_pd (i := 2) rfl (by kernel_rfl) rfl rfl (det_eql rfl rfl) ?_
          refine JA_pd (i := 3) rfl (by kernel_rfl) rfl rfl (det_move rfl) ?_
          -- stop: guard 3
          refine JA_is (d0 := 131) false rfl (by exact decide_eq_false (by omega)) (fun g6 => ?_)
          refine JA_skip (i := 4) rfl (by kernel_rfl) rfl rfl rfl rfl g6 ?_
          refine JA_skip (i := 5) rfl (by kernel_rfl) rfl rfl rfl rfl g6 ?_
          refine JA_skip (i := 6) rfl (by kernel_rfl) rfl rfl rfl rfl g6 ?_
          refine JA_skip (i := 7) rfl (by kernel_rfl) rfl rfl rfl rfl g6 ?_
          refine JA_skip (i := 8) rfl (by kernel_rfl) rfl rfl rfl rfl g6 ?_
          refine JA_skip (i := 9) rfl (by kernel_rfl) rfl rfl rfl rfl g6 ?_
          refine JA_skip (i := 10) rfl (by kernel_rfl) rfl rfl rfl rfl g6 ?_
          refine JA_skip (i := 11) rfl (by kernel_rfl) rfl rfl rfl rfl g6 ?_
          refine JA_skip (i := 12) rfl (by kernel_rfl) rfl rfl rfl rfl g6 ?_
          refine JA_skip (i := 13) rfl (by kernel_rfl) rfl rfl rfl rfl g6 ?_
          refine JA_skip (i := 14) rfl (by kernel_rfl) rfl rfl rfl rfl g6 ?_
          refine JA_skip (i := 15) rfl (by kernel_rfl) rfl rfl rfl rfl g6 ?_
          refine JA_skip (i := 16) rfl (by kernel_rfl) rfl rfl rfl rfl g6 ?_
          refine JA_skip (i := 17) rfl (by kernel_rfl) rfl rfl rfl rfl g6 ?_
          refine JA_skip (i := 18) rfl (by kernel_rfl) rfl rfl rfl rfl g6 ?_
          refine JA_pd (i := 19) rfl (by kernel_rfl) rfl rfl (det_pick_f rfl g6 rfl) ?_
          refine JA_pd (i := 20) rfl (by kernel_rfl) rfl rfl (det_assign rfl) ?_
          refine JA_done (by kernel_rfl) ?_
          refine JE_seq ?_
          refine JC_condF rfl rfl ?_
          refine JC_skip ?_
          refine JE_block ?_
          refine JE_block ?_
          refine JE_seq ?_
          refine JC_region ?_
          refine JL_pd rfl (det_move rfl) ?_
          refine JL_pd rfl (det_add rfl rfl ⟨by omega, by omega⟩) ?_
          refine JL_pd rfl (det_assign rfl) ?_
          refine JL_nil ?_
          -- stop: end
          refine JE_roundF hK (i + 1) (by omega) (by omega) (stsub_consI rfl (by omega) stsub_nil) ht_nil
      · refine JC_exit ?_
        refine JE_seq_exit ?_
        refine JE_then_exit ?_
        refine JE_block_here ?_
        refine JE_seq ?_
        refine JC_seq ?_
        refine JC_region ?_
        refine JL_step rfl rfl rfl (jo_callv rfl rfl Try.call16 rfl (awake_j)) fun _ => ?_
        refine JL_pd rfl (det_assign rfl) ?_
        refine JL_nil ?_
        refine JE_seq ?_
        refine JC_ret ?_
        -- stop: out
        refine JE_out (.inl rfl) () (results1 Try.results7 (res_tmp rfl)) rfl (List.Perm.refl _) (fun _ _ => trivial)
theorem BillParts_i (sum : Int) (a : Option Addr) (c : Nat) (ws : List Int) (wi pi : Int) (h1 : 0 ≤ wi ∧ wi ≤ 255) (h2 : 0 ≤ pi ∧ pi ≤ 65535) : Cv Try.prog 7 [I sum, .slice a ws.length c, .int .u8 wi, .int .u16 pi] (KSl a ws.length c encI ws) (.bool true) := by
  obtain ⟨wn, rfl⟩ : ∃ n : Nat, wi = n := ⟨wi.toNat, by omega⟩
  obtain ⟨pn, rfl⟩ : ∃ n : Nat, pi = n := ⟨pi.toNat, by omega⟩
  exact BillParts_j sum a c ws wn pn (by omega) (by omega)
end Go.Proofs.Ytjbmkdbgobmclaa
