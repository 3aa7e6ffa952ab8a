/- The statements about bill: BillLost. -/
import Derived.Test.YtjbmkdbgobmclaaB34
set_option linter.unusedSimpArgs false
set_option linter.unusedVariables false
namespace Go.Proofs.Ytjbmkdbgobmclaa
open Go.RowKit Go.Shelf

theorem srt_same {l l' : List Ms} (hm : ∀ m, m ∈ l' ↔ m ∈ l) (hf : fitB (srtL l) = true) : srtL l' = srtL l := by
  refine up_unique (fit_up (srtL l) zM hf).1 (srt_up l') ?_
  have h1 : (srtL l').Nodup := (srt_perm l').nodup_iff.2 (dd_nodup l')
  have h2 : (srtL l).Nodup := (srt_perm l).nodup_iff.2 (dd_nodup l)
  exact (List.perm_ext_iff_of_nodup h1 h2).2 fun m => by rw [srt_mem, srt_mem, hm]
theorem readE_0 {l : List Ms} (hl : l.length ≤ 30) (hV : ∀ m ∈ l, VMs m) (hf : fitB (srtL l) = true) : readE l = 0 := by
  unfold readE
  rw [if_neg (by omega), if_neg (by rw [List.all_eq_true.2 fun m hm => msOk_iff.2 (hV m hm)]; decide), if_neg (by rw [hf]; decide)]
theorem fits_less {l l' : List Ms} {s : List Int} (hV : ∀ m ∈ l, VMs m) (h : Fits l s) (hm : ∀ m ∈ l', m ∈ l) : lastM l' ≤ lastM l ∧ Fits l' (s.take (lastM l').toNat) := by
  have h0 := lastM_0 l'
  have hle : lastM l' ≤ lastM l := by
    rcases lastM_eq (l := l') with e | ⟨m, hm', e⟩
    · have := lastM_0 l; omega
    · rw [e]; exact lastM_le (hm m hm')
  have hl := h.len
  refine ⟨hle, by rw [List.length_take]; omega, fun x hx => h.ok x (List.mem_of_mem_take hx), fun m hm' => ?_, fun m hm' => ?_⟩
  · have h1 := h.at_ m (hm m hm')
    have h2 := lastM_le hm'
    have h3 := (hV m (hm m hm')).n0
    rw [List.getElem?_take_of_lt (by omega)]; exact h1
  · have h2 := lastM_le hm'
    rw [List.take_take, Nat.min_eq_left (by omega)]
    exact h.sum m (hm m hm')
theorem sumR_less (s : List Int) (n : Nat) {a b : Int} (h1 : 1 ≤ a) (h2 : a ≤ b) (h3 : b ≤ n) : sumR 1 (s.take n) a b = sumR 1 s a b := by
  rw [sumR_take _ 1 a b h1 (by omega), sumR_take _ 1 a b h1 (by omega), List.take_take, List.take_take, Nat.min_eq_left (by omega), Nat.min_eq_left (by omega)]
/-- With fewer messages nothing is contradictory that was not, and no range is narrower. -/
theorem less_ok {l l' : List Ms} (hV : ∀ m ∈ l, VMs m) (hf : fitB (srtL l) = true) (hm : ∀ m ∈ l', m ∈ l) : fitB (srtL l') = true := by
  obtain ⟨s, hs⟩ := (fit_ex hV).1 hf
  exact (fit_ex fun m h => hV m (hm m h)).2 ⟨_, (fits_less hV hs hm).2⟩
theorem less_wide {l l' : List Ms} (hV : ∀ m ∈ l, VMs m) (hf : fitB (srtL l) = true) (hm : ∀ m ∈ l', m ∈ l) {a b : Int} (h1 : 1 ≤ a) (h2 : a ≤ b) (h3 : b ≤ lastM l') :
    takenV littleG (srtL l') a b ≤ takenV littleG (srtL l) a b ∧ takenV muchG (srtL l) a b ≤ takenV muchG (srtL l') a b := by
  have hV' : ∀ m ∈ l', VMs m := fun m h => hV m (hm m h)
  obtain ⟨s1, f1, e1⟩ := taken_ex hV hf false a b
  obtain ⟨s2, f2, e2⟩ := taken_ex hV hf true a b
  rw [if_neg (by decide)] at e1
  rw [if_pos rfl] at e2
  have p1 := (taken_le hV' (fits_less hV f1 hm).2 a b).1
  have p2 := (taken_le hV' (fits_less hV f2 hm).2 a b).2
  rw [sumR_less _ _ h1 h2 (by omega)] at p1 p2
  omega
set_option maxRecDepth 100000 in
set_option maxHeartbeats 4000000 in
theorem BillLost_j (ad : Option Addr) (c : Nat) (ls : List Ms) (wn fn tn : Nat) (hwn : wn ≤ 255) (hf : fn ≤ 255) (ht : tn ≤ 255) : Cv Try.prog 8 [.slice ad ls.length c, .int .u8 wn, .int .u8 fn, .int .u8 tn] (KSl ad ls.length c encM ls) (.bool true) := by
  refine Cx_of Try.func8 rfl Try.ntmps8 rfl fun w0 M0 => ?_
  refine JC_seq ?_
  refine JC_region ?_
  refine JL_pd rfl (det_assign rfl) ?_
  refine JL_nil ?_
  refine JE_seq ?_
  refine JC_seq ?_
  refine JC_seq ?_
  refine JC_region ?_
  refine JL_pd rfl (det_move rfl) ?_
  refine JL_pd rfl (det_len rfl Try.runUnderlying31) ?_
  refine JL_pd rfl (det_gtr rfl rfl) ?_
  refine JL_pd rfl (det_move rfl) ?_
  -- stop: guard 3
  by_cases h1 : 29 < ls.length
  · refine JL_is (d0 := 28) true rfl (by exact decide_eq_true (by omega)) (fun g1 => ?_)
    refine JL_skip rfl rfl g1 rfl ?_
    refine JL_skip rfl rfl g1 rfl ?_
    refine JL_skip rfl rfl g1 rfl ?_
    refine JL_pd rfl (det_pick_t rfl g1 rfl) ?_
    refine JL_pd rfl (det_move rfl) ?_
    refine JL_skip rfl rfl rfl rfl ?_
    refine JL_skip rfl rfl rfl rfl ?_
    refine JL_skip rfl rfl rfl rfl ?_
    refine JL_pd rfl (det_pick_t rfl rfl rfl) ?_
    refine JL_nil ?_
    refine JE_seq ?_
    refine JC_condT rfl rfl ?_
    refine JC_seq ?_
    refine JC_region ?_
    refine JL_step rfl rfl rfl (jo_callv rfl rfl Try.call16 rfl (awake_j)) fun _ => ?_
    refine JL_pd rfl (det_assign rfl) ?_
    refine JL_nil ?_
    refine JE_seq ?_
    refine JC_ret ?_
    refine JE_seq_ret ?_
    -- stop: out
    refine JE_out (.inl rfl) () (results1 Try.results8 (res_tmp rfl)) rfl (List.Perm.refl _) (fun _ _ => trivial)
  · have hfj := lostFault_j ad c ls (by omega)
    refine JL_is (d0 := 28) false rfl (by exact decide_eq_false (by omega)) (fun g1 => ?_)
    refine JL_guard rfl rfl g1 ?_
    refine JL_pd rfl (det_move rfl) ?_
    refine JL_guard rfl rfl g1 ?_
    refine JL_step rfl rfl rfl (jo_callv rfl rfl Try.call24 rfl (hfj)) fun _ => ?_
    refine JL_guard rfl rfl g1 ?_
    refine JL_pd rfl (det_neq rfl rfl) ?_
    refine JL_pd rfl (det_pick_f rfl g1 rfl) ?_
    refine JL_pd rfl (det_move rfl) ?_
    -- stop: guard 8
    by_cases hE : readE ls = 0
    · refine JL_is (d0 := 33) false rfl (by rw [decide_eq_true hE]; rfl) (fun g2 => ?_)
      refine JL_guard rfl rfl g2 ?_
      refine JL_pd rfl (det_move rfl) ?_
      refine JL_guard rfl rfl g2 ?_
      refine JL_pd rfl (det_len rfl Try.runUnderlying31) ?_
      refine JL_guard rfl rfl g2 ?_
      refine JL_pd rfl (det_eql rfl rfl) ?_
      refine JL_pd rfl (det_pick_f rfl g2 rfl) ?_
      refine JL_nil ?_
      refine JE_seq ?_
      -- stop: cond
      refine JC_if rfl (fun h2 => ?_) (fun h2 => ?_)
      · refine JC_seq ?_
        refine JC_region ?_
        refine JL_step rfl rfl rfl (jo_callv rfl rfl Try.call16 rfl (awake_j)) fun _ => ?_
        refine JL_pd rfl (det_assign rfl) ?_
        refine JL_nil ?_
        refine JE_seq ?_
        refine JC_ret ?_
        refine JE_seq_ret ?_
        -- stop: out
        refine JE_out (.inl rfl) () (results1 Try.results8 (res_tmp rfl)) rfl (List.Perm.refl _) (fun _ _ => trivial)
      · obtain ⟨hmf, _⟩ := mfE_read hE
        obtain ⟨_, hV⟩ := mfE_of hmf
        have hfit := (read_of hE).2.2
        have h60 := lastM_60 hV
        have hl1 : 1 ≤ lastM ls := by
          have q1 := (hV _ (List.getElem_mem (show 0 < ls.length by omega))).n0
          have q2 := lastM_le (List.getElem_mem (show 0 < ls.length by omega))
          omega
        obtain ⟨k, hkd⟩ : ∃ k : Nat, wn % ls.length = k := ⟨_, rfl⟩
        have hk : k < ls.length := by rw [← hkd]; exact Nat.mod_lt _ (by omega)
        have hrem : (wn : Int).tmod (ls.length : Int) = (k : Int) := by rw [Int.tmod_eq_emod_of_nonneg (by omega), ← hkd]; rfl
        refine JC_skip ?_
        refine JE_seq ?_
        refine JC_seq ?_
        refine JC_region ?_
        refine JL_pd rfl (det_move rfl) ?_
        refine JL_pd rfl (det_convI rfl Try.runUnderlying5 Try.runUnderlying3 (i64_wrap ⟨by omega, by omega⟩)) ?_
        refine JL_pd rfl (det_move rfl) ?_
        refine JL_pd rfl (det_len rfl Try.runUnderlying31) ?_
        refine JL_pd rfl (det_rem rfl rfl (by omega)) ?_
        refine JL_pd rfl (det_assign rfl) ?_
        refine JL_nil ?_
        refine JE_seq ?_
        refine JC_seq ?_
        -- stop: draw
        rw [hrem]
        refine JC_pure (p := ls.length ≤ c) (by intro w h; exact (Knows.know (F := KSl ad ls.length c encM ls) w h).1.1) fun hgc => ?_
        refine JC_know (R' := KAnd (KSl (dropA ad (k + 1) c 3) (ls.length - (k + 1)) (c - (k + 1)) encM (ls.drop (k + 1))) (KAnd (KSl (dropA ad k c 3) (ls.length - k) (c - k) encM (ls.drop k)) _)) (fun w h => ⟨KSl_drop (Knows.know (F := KSl ad ls.length c encM ls) w h) (by omega), KSl_drop (Knows.know (F := KSl ad ls.length c encM ls) w h) (by omega), h⟩) ?_
        refine JC_cutF (γ := Value) (fun _ => True) (fun lv => [(10, lv)]) (fun lv => [ow lv 74 3 (0 + k + (ls.length - (k + 1))) ([] ++ (ls.take k).flatMap encM ++ (ls.drop (k + 1)).flatMap encM)]) [] (fun K hK => ?_) (fun lv _ => ?_)
        · refine JC_draw [] (by kernel_rfl) ?_
          refine JA_pd (i := 1) rfl (by kernel_rfl) rfl rfl (det_move rfl) ?_
          refine JA_pd (i := 2) rfl (by kernel_rfl) rfl rfl (det_move rfl) ?_
          refine JA_pd (i := 3) rfl (by kernel_rfl) rfl rfl (det_sliceK k rfl rfl rfl (by omega) Try.runUnderlying31 Try.sizeOf74) ?_
          refine JA_pd (i := 5) rfl (by kernel_rfl) rfl rfl (det_move rfl) ?_
          refine JA_pd (i := 6) rfl (by kernel_rfl) rfl rfl (det_move rfl) ?_
          refine JA_pd (i := 7) rfl (by kernel_rfl) rfl rfl (det_add rfl rfl ⟨by omega, by omega⟩) ?_
          refine JA_pd (i := 8) rfl (by kernel_rfl) rfl rfl (det_sliceF (k + 1) rfl rfl (by omega) (by omega) Try.runUnderlying31 Try.sizeOf74) ?_
          refine JA_one (i := 0) (by kernel_rfl) rfl rfl (jo_buildOwn (z := 3) rfl (bsl_31_0) rfl (by decide)) (fun _ => ⟨hsub_drop 1 rfl, fun _ h => h⟩) fun b44 => ?_
          refine JA_oneH (i := 4) (by kernel_rfl) rfl rfl (jo_appendK (e := encM) (ys := ls.take k) (hb := ⟨fun w h => KSl_take (Knows.know (F := KSl ad ls.length c encM ls) w h) (by omega)⟩) el_31 rfl rfl encM_one (by omega)) (fun _ => ⟨HIn.sub, Knows.know⟩) fun b48 => ?_
          refine JA_oneH (i := 9) (by kernel_rfl) rfl rfl (jo_appendK (e := encM) el_31 rfl rfl encM_one (by omega)) (fun _ => ⟨HIn.sub, Knows.know⟩) fun b53 => ?_
          refine JA_pd (i := 10) rfl (by kernel_rfl) rfl rfl (det_assign rfl) ?_
          refine JA_done (by kernel_rfl) ?_
          exact JE_cutF hK b53 trivial (stsub_cons rfl stsub_nil) (ht_ow rfl rfl ht_nil)
        dsimp only [List.cons_append, List.nil_append]
        refine JC_seq ?_
        -- stop: draw
        obtain ⟨less, hless⟩ : ∃ l2 : List Ms, l2 = ls.take k ++ ls.drop (k + 1) := ⟨_, rfl⟩
        obtain ⟨other, hother⟩ : ∃ l2 : List Ms, l2 = ls.drop k ++ ls.take (k + 1) := ⟨_, rfl⟩
        have hll : less.length = 0 + k + (ls.length - (k + 1)) := by rw [hless, List.length_append, List.length_take, List.length_drop]; omega
        have hol : other.length = 0 + (ls.length - k) + (k + 1) := by rw [hother, List.length_append, List.length_take, List.length_drop]; omega
        have hlm : ∀ m ∈ less, m ∈ ls := fun m hm => by
          rw [hless] at hm
          rcases List.mem_append.1 hm with hm | hm
          · exact List.mem_of_mem_take hm
          · exact List.mem_of_mem_drop hm
        have hom : ∀ m, m ∈ other ↔ m ∈ ls := fun m => by
          rw [hother, List.mem_append]
          constructor
          · rintro (hm | hm)
            · exact List.mem_of_mem_drop hm
            · exact List.mem_of_mem_take hm
          · intro hm
            rw [← List.take_append_drop k ls] at hm
            rcases List.mem_append.1 hm with hm | hm
            · refine .inr ?_
              rw [List.take_succ_eq_append_getElem hk]
              exact List.mem_append_left _ hm
            · exact .inl hm
        refine JC_slice (enc := encM) (v := lv) less noFp (by rw [hless, List.flatMap_append]) hll.symm ?_
        rintro la lc rfl
        refine JC_cutF (γ := Value) (fun _ => True) (fun ov => [(11, ov)]) (fun ov => [ow ov 74 3 (0 + (ls.length - k) + (k + 1)) ([] ++ (ls.drop k).flatMap encM ++ (ls.take (k + 1)).flatMap encM)]) [] (fun K hK => ?_) (fun ov _ => ?_)
        · refine JC_draw [] (by kernel_rfl) ?_
          refine JA_pd (i := 1) rfl (by kernel_rfl) rfl rfl (det_move rfl) ?_
          refine JA_pd (i := 2) rfl (by kernel_rfl) rfl rfl (det_move rfl) ?_
          refine JA_pd (i := 3) rfl (by kernel_rfl) rfl rfl (det_sliceF k rfl rfl (by omega) (by omega) Try.runUnderlying31 Try.sizeOf74) ?_
          refine JA_pd (i := 5) rfl (by kernel_rfl) rfl rfl (det_move rfl) ?_
          refine JA_pd (i := 6) rfl (by kernel_rfl) rfl rfl (det_move rfl) ?_
          refine JA_pd (i := 7) rfl (by kernel_rfl) rfl rfl (det_add rfl rfl ⟨by omega, by omega⟩) ?_
          refine JA_pd (i := 8) rfl (by kernel_rfl) rfl rfl (det_sliceK (k + 1) rfl rfl (by omega) (by omega) Try.runUnderlying31 Try.sizeOf74) ?_
          refine JA_one (i := 0) (by kernel_rfl) rfl rfl (jo_buildOwn (z := 3) rfl (bsl_31_0) rfl (by decide)) (fun _ => ⟨hsub_drop 1 rfl, fun _ h => h⟩) fun b54 => ?_
          refine JA_oneH (i := 4) (by kernel_rfl) rfl rfl (jo_appendK (e := encM) el_31 rfl rfl encM_one (by omega)) (fun _ => ⟨HIn.sub, Knows.know⟩) fun b58 => ?_
          refine JA_oneH (i := 9) (by kernel_rfl) rfl rfl (jo_appendK (e := encM) (ys := ls.take (k + 1)) (hb := ⟨fun w h => KSl_take (Knows.know (F := KSl ad ls.length c encM ls) w h) (by omega)⟩) el_31 rfl rfl encM_one (by omega)) (fun _ => ⟨HIn.sub, Knows.know⟩) fun b63 => ?_
          refine JA_pd (i := 10) rfl (by kernel_rfl) rfl rfl (det_assign rfl) ?_
          refine JA_done (by kernel_rfl) ?_
          exact JE_cutF hK b63 trivial (stsub_cons rfl stsub_nil) (ht_ow rfl rfl ht_nil)
        dsimp only [List.cons_append, List.nil_append]
        refine JC_seq ?_
        refine JC_region ?_
        refine JL_pd rfl (det_move rfl) ?_
        -- stop: op  1 t65 := (call (Call (value f28) (t64) (31)))   <0>   235
        refine JL_slice (enc := encM) (v := ov) other noFp (by rw [hother, List.flatMap_append]) hol.symm ?_
        rintro oa oc rfl
        rw [← hll, ← hol]
        refine JL_pure (p := other.length ≤ oc) (by intro w h; exact (Knows.know (F := KSl oa other.length oc encM other) w h).1.1) fun hgo => ?_
        have hLj := Last_j ad c ls (by omega)
        have hLl := Last_j la lc less (by omega)
        have hso := srt_same hom hfit
        have hVo : ∀ m ∈ other, VMs m := fun m hm => hV m ((hom m).1 hm)
        have hVl : ∀ m ∈ less, VMs m := fun m hm => hV m (hlm m hm)
        have hro : readE other = 0 := readE_0 (by omega) hVo (by rw [hso]; exact hfit)
        have hfl := less_ok hV hfit hlm
        have hrl : readE less = 0 := readE_0 (by omega) hVl hfl
        have hlo : lastM other = lastM ls := by rw [← lastN_M hVo, ← lastN_M hV, hso]
        have hge : lastM less ≤ lastM ls := by
          obtain ⟨s, hs⟩ := (fit_ex hV).1 hfit
          exact (fits_less hV hs hlm).1
        have hwide := fun a b h1 h2 h3 => less_wide (a := a) (b := b) hV hfit hlm h1 h2 h3
        obtain ⟨n, hn⟩ : ∃ n : Nat, lastM ls = n := ⟨(lastM ls).toNat, by omega⟩
        rw [hn] at hLj
        obtain ⟨a, ha⟩ : ∃ a : Int, 1 + (fn : Int).tmod (n : Int) = a := ⟨_, rfl⟩
        have ha1 : 1 ≤ a ∧ a ≤ n := by
          rw [← ha, Int.tmod_eq_emod_of_nonneg (by omega)]
          have := Int.emod_nonneg (fn : Int) (show (n : Int) ≠ 0 by omega)
          have := Int.emod_lt_of_pos (fn : Int) (show 0 < (n : Int) by omega)
          omega
        obtain ⟨b, hbd⟩ : ∃ b : Int, a + (tn : Int).tmod ((n : Int) - a + 1) = b := ⟨_, rfl⟩
        have hb1 : a ≤ b ∧ b ≤ n := by
          rw [← hbd, Int.tmod_eq_emod_of_nonneg (by omega)]
          have := Int.emod_nonneg (tn : Int) (show (n : Int) - a + 1 ≠ 0 by omega)
          have := Int.emod_lt_of_pos (tn : Int) (show 0 < (n : Int) - a + 1 by omega)
          omega
        have hfr : 0 ≤ (fn : Int).tmod (n : Int) ∧ (fn : Int).tmod (n : Int) ≤ 60 := by omega
        have hm1 := lMsgs_j ad c ls (by omega)
        have hm2 := lMsgs_j oa oc other (by omega)
        have hm3 := lMsgs_j la lc less (by omega)
        have ht1 := fun a2 c2 => Taken_jo a2 c2 ls (by omega) a b (takenE_0 hE hV ha1.1 hb1.1 (by omega))
        have ht2 := fun a2 c2 => Taken_jo a2 c2 other (by omega) a b (takenE_0 hro hVo ha1.1 hb1.1 (by omega))
        have hx1 := fun a2 c2 => Lost_jo a2 c2 ls (by omega) hE
        have hx2 := fun a2 c2 => Lost_jo a2 c2 other (by omega) hro
        rw [hso] at ht2 hx2
        have htb := taken_bd hV hfit a b
        have hw2 := hwide a b ha1.1 hb1.1
        generalize hX : lostL (srtL ls) = X at hx1 hx2
        generalize hvl : takenV littleG (srtL ls) a b = vl at ht1 ht2 htb hw2
        generalize hvh : takenV muchG (srtL ls) a b = vh at ht1 ht2 htb hw2
        refine JL_step rfl rfl rfl (jo_callv rfl rfl Try.call28 rfl (hLj)) fun _ => ?_
        refine JL_pd rfl (det_assign rfl) ?_
        refine JL_nil ?_
        refine JE_seq ?_
        refine JC_seq ?_
        refine JC_region ?_
        refine JL_pd rfl (det_move rfl) ?_
        refine JL_pd rfl (det_convI rfl Try.runUnderlying5 Try.runUnderlying3 (i64_wrap ⟨by omega, by omega⟩)) ?_
        refine JL_pd rfl (det_move rfl) ?_
        refine JL_pd rfl (det_rem rfl rfl (by omega)) ?_
        refine JL_pd rfl (det_addR a rfl rfl (by rw [ha]; exact i64_wrap ⟨by omega, by omega⟩)) ?_
        refine JL_pd rfl (det_assign rfl) ?_
        refine JL_nil ?_
        refine JE_seq ?_
        refine JC_seq ?_
        refine JC_region ?_
        refine JL_pd rfl (det_move rfl) ?_
        refine JL_pd rfl (det_move rfl) ?_
        refine JL_pd rfl (det_convI rfl Try.runUnderlying5 Try.runUnderlying3 (i64_wrap ⟨by omega, by omega⟩)) ?_
        refine JL_pd rfl (det_move rfl) ?_
        refine JL_pd rfl (det_move rfl) ?_
        refine JL_pd rfl (det_sub rfl rfl ⟨by omega, by omega⟩) ?_
        refine JL_pd rfl (det_add rfl rfl ⟨by omega, by omega⟩) ?_
        refine JL_pd rfl (det_rem rfl rfl (by omega)) ?_
        refine JL_pd rfl (det_addR b rfl rfl (by rw [hbd]; exact i64_wrap ⟨by omega, by omega⟩)) ?_
        refine JL_pd rfl (det_assign rfl) ?_
        refine JL_nil ?_
        refine JE_seq ?_
        refine JC_seq ?_
        refine JC_region ?_
        refine JL_pd rfl (det_move rfl) ?_
        -- stop: op  1 t82 := (call (Call (value f22) (t81) (31)))   <0>   238
        refine JL_step rfl rfl rfl (jo_call rfl rfl Try.call22 rfl (hm1)) fun y1 => ?_
        refine JL_pd rfl (det_move rfl) ?_
        refine JL_pd rfl (det_move rfl) ?_
        -- stop: op  4 t85 := (call (Call (value f23) (t82 t83 t84) (33 3 3)))   <1 2 3 1>   238
        refine JL_step rfl rfl rfl (jo_callv rfl rfl Try.call23 rfl (ht1 y1.1 y1.2)) fun _ => ?_
        refine JL_pd rfl (det_move rfl) ?_
        refine JL_pd rfl (det_extract rfl rfl) ?_
        refine JL_pd rfl (det_extract rfl rfl) ?_
        refine JL_step rfl rfl rfl (jo_alloc0 Try.zeroValue36 rfl) fun b15 => ?_
        refine JL_step0 rfl rfl (jo_store rfl rfl rfl (by first | (simp only [splice_norm]; done) | (simp only [splice_norm]; rfl) | rfl) Try.sizeOf36 rfl rfl) fun _ => ?_
        refine JL_pd rfl (det_assign rfl) ?_
        refine JL_nil ?_
        refine JE_seq ?_
        refine JC_seq ?_
        refine JC_region ?_
        refine JL_pd rfl (det_move rfl) ?_
        refine JL_pd rfl (det_move rfl) ?_
        refine JL_pd rfl (det_len rfl Try.runUnderlying31) ?_
        refine JL_pd rfl (det_min rfl rfl) ?_
        refine JL_pd rfl (det_sliceK other.length rfl rfl (by omega) (by omega) Try.runUnderlying31 Try.sizeOf74) ?_
        -- stop: op  5 t94 := (call (Call (value f22) (t93) (31)))   <4>   239
        refine JL_step rfl rfl rfl (jo_call rfl rfl Try.call22 rfl (hm2)) fun y2 => ?_
        refine JL_pd rfl (det_move rfl) ?_
        refine JL_pd rfl (det_move rfl) ?_
        -- stop: op  8 t97 := (call (Call (value f23) (t94 t95 t96) (33 3 3)))   <5 6 7 5>   239
        refine JL_step rfl rfl rfl (jo_callv rfl rfl Try.call23 rfl (ht2 y2.1 y2.2)) fun _ => ?_
        refine JL_pd rfl (det_move rfl) ?_
        refine JL_pd rfl (det_extract rfl rfl) ?_
        refine JL_pd rfl (det_extract rfl rfl) ?_
        refine JL_step rfl rfl rfl (jo_alloc0 Try.zeroValue36 rfl) fun b17 => ?_
        refine JL_step0 rfl rfl (jo_store rfl rfl rfl (by first | (simp only [splice_norm]; done) | (simp only [splice_norm]; rfl) | rfl) Try.sizeOf36 rfl rfl) fun _ => ?_
        refine JL_pd rfl (det_assign rfl) ?_
        refine JL_nil ?_
        refine JE_seq ?_
        refine JC_seq ?_
        refine JC_region ?_
        refine JL_pd rfl (det_move rfl) ?_
        -- stop: op  1 t102 := (call (Call (value f22) (t101) (31)))   <0>   240
        refine JL_step rfl rfl rfl (jo_call rfl rfl Try.call22 rfl (hm1)) fun y3 => ?_
        -- stop: op  2 t103 := (call (Call (value f21) (t102) (33)))   <1 1>   240
        refine JL_step rfl rfl rfl (jo_call rfl rfl Try.call21 rfl (hx1 y3.1 y3.2)) fun x1 => ?_
        refine JL_pd rfl (det_move rfl) ?_
        refine JL_pd rfl (det_extract rfl rfl) ?_
        refine JL_pd rfl (det_extract rfl rfl) ?_
        refine JL_pd rfl (det_assign rfl) ?_
        refine JL_pd rfl (det_assign rfl) ?_
        refine JL_nil ?_
        refine JE_seq ?_
        refine JC_seq ?_
        refine JC_region ?_
        refine JL_pd rfl (det_move rfl) ?_
        refine JL_pd rfl (det_move rfl) ?_
        refine JL_pd rfl (det_len rfl Try.runUnderlying31) ?_
        refine JL_pd rfl (det_min rfl rfl) ?_
        refine JL_pd rfl (det_sliceK other.length rfl rfl (by omega) (by omega) Try.runUnderlying31 Try.sizeOf74) ?_
        -- stop: op  5 t112 := (call (Call (value f22) (t111) (31)))   <4>   241
        refine JL_step rfl rfl rfl (jo_call rfl rfl Try.call22 rfl (hm2)) fun y4 => ?_
        -- stop: op  6 t113 := (call (Call (value f21) (t112) (33)))   <5 5>   241
        refine JL_step rfl rfl rfl (jo_call rfl rfl Try.call21 rfl (hx2 y4.1 y4.2)) fun x2 => ?_
        refine JL_pd rfl (det_move rfl) ?_
        refine JL_pd rfl (det_extract rfl rfl) ?_
        refine JL_pd rfl (det_extract rfl rfl) ?_
        refine JL_pd rfl (det_assign rfl) ?_
        refine JL_pd rfl (det_assign rfl) ?_
        refine JL_nil ?_
        refine JE_seq ?_
        refine JC_seq ?_
        refine JC_seq ?_
        refine JC_region ?_
        refine JL_pd rfl (det_move rfl) ?_
        refine JL_pd rfl (det_neq rfl rfl) ?_
        refine JL_pd rfl (det_move rfl) ?_
        -- stop: guard 2
        skip
        refine JL_is (d0 := 118) false rfl (by first | rfl | exact congrArg not (decide_eq_true ⟨rfl, rfl⟩)) (fun g1 => ?_)
        refine JL_guard rfl rfl g1 ?_
        refine JL_pd rfl (det_move rfl) ?_
        refine JL_guard rfl rfl g1 ?_
        refine JL_pd rfl (det_neq rfl rfl) ?_
        refine JL_pd rfl (det_pick_f rfl g1 rfl) ?_
        refine JL_pd rfl (det_move rfl) ?_
        refine JL_is (d0 := 122) false rfl (by first | rfl | exact congrArg not (decide_eq_true ⟨rfl, rfl⟩)) (fun g2 => ?_)
        refine JL_guard rfl rfl g2 ?_
        refine JL_dt rfl (det_loadKA rfl Try.isAgg36 Try.sizeOf36 rfl rfl) ?_
        refine JL_guard rfl rfl g2 ?_
        refine JL_dt rfl (det_loadKA rfl Try.isAgg36 Try.sizeOf36 rfl rfl) ?_
        refine JL_guard rfl rfl g2 ?_
        refine JL_pd rfl (det_neqA rfl rfl egt_36 (eqa_36 _ _ _ _)) ?_
        refine JL_pd rfl (det_pick_f rfl g2 rfl) ?_
        refine JL_pd rfl (det_move rfl) ?_
        refine JL_is (d0 := 127) false rfl (by first | rfl | exact congrArg not (decide_eq_true ⟨rfl, rfl⟩)) (fun g3 => ?_)
        refine JL_guard rfl rfl g3 ?_
        refine JL_pd rfl (det_move rfl) ?_
        refine JL_guard rfl rfl g3 ?_
        refine JL_pd rfl (det_neq rfl rfl) ?_
        refine JL_pd rfl (det_pick_f rfl g3 rfl) ?_
        refine JL_pd rfl (det_move rfl) ?_
        refine JL_is (d0 := 131) false rfl (by first | rfl | exact congrArg not (decide_eq_true ⟨rfl, rfl⟩)) (fun g4 => ?_)
        refine JL_guard rfl rfl g4 ?_
        refine JL_pd rfl (det_move rfl) ?_
        refine JL_guard rfl rfl g4 ?_
        refine JL_pd rfl (det_neq rfl rfl) ?_
        refine JL_pd rfl (det_pick_f rfl g4 rfl) ?_
        refine JL_pd rfl (det_move rfl) ?_
        refine JL_is (d0 := 135) false rfl (by first | rfl | exact congrArg not (decide_eq_true ⟨rfl, rfl⟩)) (fun g5 => ?_)
        refine JL_guard rfl rfl g5 ?_
        refine JL_pd rfl (det_move rfl) ?_
        refine JL_guard rfl rfl g5 ?_
        refine JL_pd rfl (det_move rfl) ?_
        refine JL_guard rfl rfl g5 ?_
        -- stop: op 22 t138 := (call (Call (value f25) (t136 t137) (22 22)))   <20 21 19 19>   242
        refine JL_step rfl rfl rfl (jo_callv rfl rfl Try.call25 rfl (ints_j x1.1 x1.2 X x2.1 x2.2 X)) fun _ => ?_
        refine JL_guard rfl rfl g5 ?_
        refine JL_pd rfl (det_not rfl) ?_
        refine JL_pd rfl (det_pick_f rfl g5 rfl) ?_
        refine JL_nil ?_
        refine JE_seq ?_
        -- stop: cond
        refine JC_cond rfl (fun h3 => ?_) (fun h3 => ?_)
        · exact absurd h3 (by rw [decide_eq_true rfl]; decide)
        refine JC_skip ?_
        refine JE_seq ?_
        refine JC_seq ?_
        refine JC_region ?_
        refine JL_pd rfl (det_move rfl) ?_
        -- stop: op  1 t143 := (call (Call (value f22) (t142) (31)))   <0>   245
        refine JL_step rfl rfl rfl (jo_call rfl rfl Try.call22 rfl (hm3)) fun y5 => ?_
        refine JL_pd rfl (det_move rfl) ?_
        refine JL_pd rfl (det_move rfl) ?_
        -- stop: op  4 t146 := (call (Call (value f23) (t143 t144 t145) (33 3 3)))   <1 2 3 1>   245
        by_cases hbl : b ≤ lastM less
        · have ht3 := Taken_jo y5.1 y5.2 less (by omega) a b (takenE_0 hrl hVl ha1.1 hb1.1 hbl)
          have hw3 := hw2 hbl
          generalize takenV littleG (srtL less) a b = wl at ht3 hw3
          generalize takenV muchG (srtL less) a b = wh at ht3 hw3
          refine JL_step rfl rfl rfl (jo_callv rfl rfl Try.call23 rfl (ht3)) fun _ => ?_
          refine JL_pd rfl (det_move rfl) ?_
          refine JL_pd rfl (det_extract rfl rfl) ?_
          refine JL_pd rfl (det_extract rfl rfl) ?_
          refine JL_step rfl rfl rfl (jo_alloc0 Try.zeroValue36 rfl) fun b23 => ?_
          refine JL_step0 rfl rfl (jo_store rfl rfl rfl (by first | (simp only [splice_norm]; done) | (simp only [splice_norm]; rfl) | rfl) Try.sizeOf36 rfl rfl) fun _ => ?_
          refine JL_pd rfl (det_assign rfl) ?_
          refine JL_nil ?_
          refine JE_seq ?_
          refine JC_seq ?_
          refine JC_seq ?_
          refine JC_region ?_
          refine JL_pd rfl (det_move rfl) ?_
          refine JL_pd rfl (det_move rfl) ?_
          refine JL_step rfl rfl rfl (jo_callv rfl rfl Try.call28 rfl (hLl)) fun _ => ?_
          refine JL_pd rfl (det_gtr rfl rfl) ?_
          refine JL_nil ?_
          refine JE_seq ?_
          -- stop: cond
          refine JC_if rfl (fun h4 => ?_) (fun h4 => ?_)
          · exact absurd h4 (by omega)
          refine JC_skip ?_
          refine JE_seq ?_
          refine JC_seq ?_
          refine JC_region ?_
          refine JL_pd rfl (det_move rfl) ?_
          refine JL_pd rfl (det_eql rfl rfl) ?_
          refine JL_pd rfl (det_move rfl) ?_
          -- stop: guard 2
          skip
          refine JL_is (d0 := 160) true rfl (by first | rfl | exact decide_eq_true (by omega)) (fun g1 => ?_)
          refine JL_guard rfl rfl g1 ?_
          refine JL_pd rfl (det_fieldAddr rfl fo_36_0) ?_
          refine JL_guard rfl rfl g1 ?_
          refine JL_dt rfl (det_loadK rfl Try.isAgg3 rfl) ?_
          refine JL_guard rfl rfl g1 ?_
          refine JL_pd rfl (det_fieldAddr rfl fo_36_0) ?_
          refine JL_guard rfl rfl g1 ?_
          refine JL_dt rfl (det_loadK rfl Try.isAgg3 rfl) ?_
          refine JL_guard rfl rfl g1 ?_
          refine JL_pd rfl (det_leq rfl rfl) ?_
          refine JL_pd rfl (det_pick_t rfl g1 rfl) ?_
          refine JL_pd rfl (det_move rfl) ?_
          refine JL_is (d0 := 167) true rfl (by first | rfl | exact decide_eq_true (by omega)) (fun g2 => ?_)
          refine JL_guard rfl rfl g2 ?_
          refine JL_pd rfl (det_fieldAddr rfl fo_36_1) ?_
          refine JL_guard rfl rfl g2 ?_
          refine JL_dt rfl (det_loadK rfl Try.isAgg3 rfl) ?_
          refine JL_guard rfl rfl g2 ?_
          refine JL_pd rfl (det_fieldAddr rfl fo_36_1) ?_
          refine JL_guard rfl rfl g2 ?_
          refine JL_dt rfl (det_loadK rfl Try.isAgg3 rfl) ?_
          refine JL_guard rfl rfl g2 ?_
          refine JL_pd rfl (det_geq rfl rfl) ?_
          refine JL_pd rfl (det_pick_t rfl g2 rfl) ?_
          refine JL_pd rfl (det_move rfl) ?_
          refine JL_is (d0 := 174) true rfl (by first | rfl | exact decide_eq_true (by omega)) (fun g3 => ?_)
          refine JL_guard rfl rfl g3 ?_
          refine JL_step rfl rfl rfl (jo_callv rfl rfl Try.call16 rfl (awake_j)) fun _ => ?_
          refine JL_pd rfl (det_pick_t rfl g3 rfl) ?_
          refine JL_pd rfl (det_assign rfl) ?_
          refine JL_nil ?_
          refine JE_seq ?_
          refine JC_ret ?_
          -- stop: out
          refine JE_out (.inl rfl) () (results1 Try.results8 (res_tmp rfl)) rfl (List.Perm.refl _) (fun _ _ => trivial)
        · have hT : takenE less a b = 2 := takenE_ne hrl fun h => hbl (by rw [← lastN_M hVl]; exact h.2)
          have ht3 := Taken_je y5.1 y5.2 less (by omega) a b (by rw [hT]; decide)
          rw [hT] at ht3
          refine JL_step rfl rfl rfl (jo_callv rfl rfl Try.call23 rfl (ht3)) fun _ => ?_
          refine JL_pd rfl (det_move rfl) ?_
          refine JL_pd rfl (det_extract rfl rfl) ?_
          refine JL_pd rfl (det_extract rfl rfl) ?_
          refine JL_step rfl rfl rfl (jo_alloc0 Try.zeroValue36 rfl) fun b23 => ?_
          refine JL_step0 rfl rfl (jo_store rfl rfl rfl (by first | (simp only [splice_norm]; done) | (simp only [splice_norm]; rfl) | rfl) Try.sizeOf36 rfl rfl) fun _ => ?_
          refine JL_pd rfl (det_assign rfl) ?_
          refine JL_nil ?_
          refine JE_seq ?_
          refine JC_seq ?_
          refine JC_seq ?_
          refine JC_region ?_
          refine JL_pd rfl (det_move rfl) ?_
          refine JL_pd rfl (det_move rfl) ?_
          refine JL_step rfl rfl rfl (jo_callv rfl rfl Try.call28 rfl (hLl)) fun _ => ?_
          refine JL_pd rfl (det_gtr rfl rfl) ?_
          refine JL_nil ?_
          refine JE_seq ?_
          -- stop: cond
          refine JC_if rfl (fun h4 => ?_) (fun h4 => ?_)
          · refine JC_seq ?_
            refine JC_region ?_
            refine JL_pd rfl (det_move rfl) ?_
            refine JL_pd rfl (det_eql rfl rfl) ?_
            refine JL_pd rfl (det_move rfl) ?_
            -- stop: guard 2
            skip
            refine JL_is (d0 := 155) true rfl (by first | rfl | exact decide_eq_true (by omega)) (fun g1 => ?_)
            refine JL_guard rfl rfl g1 ?_
            refine JL_step rfl rfl rfl (jo_callv rfl rfl Try.call16 rfl (awake_j)) fun _ => ?_
            refine JL_pd rfl (det_pick_t rfl g1 rfl) ?_
            refine JL_pd rfl (det_assign rfl) ?_
            refine JL_nil ?_
            refine JE_seq ?_
            refine JC_ret ?_
            refine JE_seq_ret ?_
            -- stop: out
            refine JE_out (.inl rfl) () (results1 Try.results8 (res_tmp rfl)) rfl (List.Perm.refl _) (fun _ _ => trivial)
          · exact absurd h4 (by omega)
    · skip
      refine JL_is (d0 := 33) true rfl (by rw [decide_eq_false hE]; rfl) (fun g2 => ?_)
      refine JL_skip rfl rfl g2 rfl ?_
      refine JL_skip rfl rfl g2 rfl ?_
      refine JL_skip rfl rfl g2 rfl ?_
      refine JL_pd rfl (det_pick_t rfl g2 rfl) ?_
      refine JL_nil ?_
      refine JE_seq ?_
      refine JC_condT rfl rfl ?_
      refine JC_seq ?_
      refine JC_region ?_
      refine JL_step rfl rfl rfl (jo_callv rfl rfl Try.call16 rfl (awake_j)) fun _ => ?_
      refine JL_pd rfl (det_assign rfl) ?_
      refine JL_nil ?_
      refine JE_seq ?_
      refine JC_ret ?_
      refine JE_seq_ret ?_
      -- stop: out
      refine JE_out (.inl rfl) () (results1 Try.results8 (res_tmp rfl)) rfl (List.Perm.refl _) (fun _ _ => trivial)
theorem BillLost_i (ad : Option Addr) (c : Nat) (ls : List Ms) (wn fn tn : Int) (hm : 0 ≤ wn ∧ wn ≤ 255) (hf : 0 ≤ fn ∧ fn ≤ 255) (ht : 0 ≤ tn ∧ tn ≤ 255) : Cv Try.prog 8 [.slice ad ls.length c, .int .u8 wn, .int .u8 fn, .int .u8 tn] (KSl ad ls.length c encM ls) (.bool true) := by
  obtain ⟨x, rfl⟩ : ∃ n : Nat, wn = n := ⟨wn.toNat, by omega⟩
  obtain ⟨y, rfl⟩ : ∃ n : Nat, fn = n := ⟨fn.toNat, by omega⟩
  obtain ⟨z, rfl⟩ : ∃ n : Nat, tn = n := ⟨tn.toNat, by omega⟩
  exact BillLost_j ad c ls x y z (by omega) (by omega) (by omega)
end Go.Proofs.Ytjbmkdbgobmclaa
