/- The statements about bill: BillTruth. -/
import Derived.Test.YtjbmkdbgobmclaaQB
set_option linter.unusedSimpArgs false
set_option linter.unusedVariables false
namespace Go.Proofs.Ytjbmkdbgobmclaa
open Go.RowKit Go.Shelf

theorem taken_bd {l : List Ms} (hV : ∀ m ∈ l, VMs m) (hf : fitB (srtL l) = true) (fr to_ : Int) : 0 ≤ takenV littleG (srtL l) fr to_ ∧ takenV littleG (srtL l) fr to_ ≤ takenV muchG (srtL l) fr to_ ∧ takenV muchG (srtL l) fr to_ ≤ 60000 := by
  have h60 := lastM_60 hV
  have hb : ∀ s, Fits l s → 0 ≤ sumR 1 s fr to_ ∧ sumR 1 s fr to_ ≤ 60000 := fun s hs => by
    have h1 := sumR_bd s 1 fr to_ hs.ok
    have h2 := cntR_0 s.length 1 fr to_
    have h3 : cntR 1 s.length fr to_ ≤ s.length := by rw [cntR_eq]; omega
    have h4 := hs.len
    omega
  obtain ⟨s1, f1, e1⟩ := taken_ex hV hf false fr to_
  obtain ⟨s2, f2, e2⟩ := taken_ex hV hf true fr to_
  rw [if_neg (by decide)] at e1
  rw [if_pos rfl] at e2
  have b1 := hb s1 f1
  have b2 := hb s2 f2
  have b3 := taken_le hV f1 fr to_
  omega
theorem takenE_0 {l : List Ms} (hr : readE l = 0) (hV : ∀ m ∈ l, VMs m) {fr to_ : Int} (h1 : 1 ≤ fr) (h2 : fr ≤ to_) (h3 : to_ ≤ lastM l) : takenE l fr to_ = 0 := by
  unfold takenE
  rw [if_neg (by rw [hr]; decide), if_neg]
  rintro (e | e)
  · rw [inI_iff.2 ⟨h1, h2⟩] at e; cases e
  · rw [lastN_M hV] at e; omega
theorem lostR_len (l : List Ms) : ((lostR l).length : Int) ≤ lastM l := by
  have := filter_len (goneB l) 1 (lastM l)
  have h0 := lastM_0 l
  unfold lostR
  omega
set_option maxRecDepth 100000 in
set_option maxHeartbeats 2000000 in
theorem BillTruth_j (mn : Nat) (ws : List Int) (wa : Option Addr) (wc : Nat) (bits : Int) (fn tn : Nat) (hm : mn ≤ 255) (hw : wordsOk ws) (hb : 0 ≤ bits ∧ bits ≤ 18446744073709551615) (hf : fn ≤ 255) (ht : tn ≤ 255) : Cv Try.prog 13 [.int .u8 mn, .slice wa ws.length wc, .int .u64 bits, .int .u8 fn, .int .u8 tn] (KSl wa ws.length wc encU ws) (.bool true) := by
  have htj := Truly_j mn ws wa wc bits hm hw hb
  have hn60 : mn % 61 ≤ 60 := by omega
  generalize mn % 61 = N at htj hn60
  have hfit := tru_fits (bits := bits) hw N
  have hrd := tru_read (bits := bits) hw hn60
  have hV := told_ok (bits := bits) hw hn60
  have hlen := truS_len ws bits N
  have hml := told_len ws bits N
  generalize truS ws bits N = S at htj hfit hlen
  generalize toldL ws bits N = L at htj hfit hrd hV hlen hml
  have h60 := lastM_60 hV
  have hge := lastM_0 L
  refine Cx_of Try.func13 rfl Try.ntmps13 rfl fun w0 M0 => ?_
  refine JC_seq ?_
  refine JC_region ?_
  refine JL_pd rfl (det_assign rfl) ?_
  refine JL_nil ?_
  refine JE_seq ?_
  refine JC_seq ?_
  refine JC_region ?_
  refine JL_pd rfl (det_move rfl) ?_
  refine JL_pd rfl (det_move rfl) ?_
  refine JL_pd rfl (det_move rfl) ?_
  refine JL_step rfl rfl rfl (jo_call rfl rfl Try.call37 rfl (htj)) fun x24 => ?_
  refine JL_pd rfl (det_move rfl) ?_
  refine JL_pd rfl (det_extract rfl rfl) ?_
  refine JL_pd rfl (det_extract rfl rfl) ?_
  refine JL_pd rfl (det_assign rfl) ?_
  refine JL_pd rfl (det_assign rfl) ?_
  refine JL_nil ?_
  refine JE_seq ?_
  refine JC_seq ?_
  refine JC_seq ?_
  refine JC_region ?_
  refine JL_pd rfl (det_move rfl) ?_
  refine JL_pd rfl (det_len rfl Try.runUnderlying31) ?_
  refine JL_pd rfl (det_eql rfl rfl) ?_
  refine JL_nil ?_
  refine JE_seq ?_
  -- stop: cond
  refine JC_if rfl (fun h1 => ?_) (fun h1 => ?_)
  · refine JC_seq ?_
    refine JC_region ?_
    refine JL_step rfl rfl rfl (jo_callv rfl rfl Try.call16 rfl (awake_j)) fun _ => ?_
    refine JL_pd rfl (det_assign rfl) ?_
    refine JL_nil ?_
    refine JE_seq ?_
    refine JC_ret ?_
    refine JE_seq_ret ?_
    -- stop: out
    refine JE_out (.inl rfl) () (results1 Try.results13 (res_tmp rfl)) rfl (List.Perm.refl _) (fun _ _ => trivial)
  · have hne : L ≠ [] := fun e => h1 (by rw [e]; rfl)
    have hl1 : 1 ≤ lastM L := by
      obtain ⟨m, hm⟩ := List.exists_mem_of_ne_nil L hne
      have q1 := (hV m hm).n0
      have q2 := lastM_le hm
      omega
    obtain ⟨n, hn⟩ : ∃ n : Nat, S.length = n := ⟨_, rfl⟩
    have hn0 : 1 ≤ n ∧ n ≤ 60 := by omega
    obtain ⟨a, ha⟩ : ∃ a : Int, 1 + (fn : Int).tmod (n : Int) = a := ⟨_, rfl⟩
    have ha1 : 1 ≤ a ∧ a ≤ n := by
      rw [← ha, Int.tmod_eq_emod_of_nonneg (by omega)]
      have := Int.emod_nonneg (fn : Int) (show (n : Int) ≠ 0 by omega)
      have := Int.emod_lt_of_pos (fn : Int) (show 0 < (n : Int) by omega)
      omega
    obtain ⟨b, hbd⟩ : ∃ b : Int, a + (tn : Int).tmod ((n : Int) - a + 1) = b := ⟨_, rfl⟩
    have hb1 : a ≤ b ∧ b ≤ n := by
      rw [← hbd, Int.tmod_eq_emod_of_nonneg (by omega)]
      have := Int.emod_nonneg (tn : Int) (show (n : Int) - a + 1 ≠ 0 by omega)
      have := Int.emod_lt_of_pos (tn : Int) (show 0 < (n : Int) - a + 1 by omega)
      omega
    have hfr : 0 ≤ (fn : Int).tmod (n : Int) ∧ (fn : Int).tmod (n : Int) ≤ 60 := by omega
    have hmj := fun a2 c2 => lMsgs_j a2 c2 L (by omega)
    have hlj := fun a2 c2 => lList_j S a2 c2 (by omega)
    have htk := fun a2 c2 => Taken_jo a2 c2 L (by omega) a b (takenE_0 hrd hV ha1.1 hb1.1 (by omega))
    have hls := fun a2 c2 => Lost_jo a2 c2 L (by omega) hrd
    have hfb := (read_of hrd).2.2
    rw [lost_eq hV hfb] at hls
    have hll := lostR_len L
    have hps := fun a2 c2 a3 c3 => ProveSales_j a2 c2 L a3 c3 S (by omega) (by omega)
    have hsj := fun a2 c2 => sum_j a2 c2 S a b (by omega) hfit.ok ha1.1 hb1.1 (by omega)
    rw [(mfE_read hrd).1, (fitsB_iff hV).2 hfit] at hps
    have htl := taken_le hV hfit a b
    simp only [hn] at htk hls hps hsj htl hlj
    generalize takenV littleG (srtL L) a b = lo at htk htl
    generalize takenV muchG (srtL L) a b = hi at htk htl
    generalize lostR L = X at hls hll
    rw [hn]
    refine JC_skip ?_
    refine JE_seq ?_
    refine JC_seq ?_
    refine JC_region ?_
    refine JL_pd rfl (det_move rfl) ?_
    refine JL_pd rfl (det_len rfl Try.runUnderlying22) ?_
    refine JL_pd rfl (det_assign rfl) ?_
    refine JL_nil ?_
    refine JE_seq ?_
    refine JC_seq ?_
    refine JC_region ?_
    refine JL_pd rfl (det_move rfl) ?_
    refine JL_pd rfl (det_convI rfl Try.runUnderlying5 Try.runUnderlying3 (i64_wrap ⟨by omega, by omega⟩)) ?_
    refine JL_pd rfl (det_move rfl) ?_
    refine JL_pd rfl (det_rem rfl rfl (by omega)) ?_
    refine JL_pd rfl (det_addR a rfl rfl (by rw [ha]; exact i64_wrap ⟨by omega, by omega⟩)) ?_
    refine JL_pd rfl (det_assign rfl) ?_
    refine JL_nil ?_
    refine JE_seq ?_
    refine JC_seq ?_
    refine JC_region ?_
    refine JL_pd rfl (det_move rfl) ?_
    refine JL_pd rfl (det_move rfl) ?_
    refine JL_pd rfl (det_convI rfl Try.runUnderlying5 Try.runUnderlying3 (i64_wrap ⟨by omega, by omega⟩)) ?_
    refine JL_pd rfl (det_move rfl) ?_
    refine JL_pd rfl (det_move rfl) ?_
    refine JL_pd rfl (det_sub rfl rfl ⟨by omega, by omega⟩) ?_
    refine JL_pd rfl (det_add rfl rfl ⟨by omega, by omega⟩) ?_
    refine JL_pd rfl (det_rem rfl rfl (by omega)) ?_
    refine JL_pd rfl (det_addR b rfl rfl (by rw [hbd]; exact i64_wrap ⟨by omega, by omega⟩)) ?_
    refine JL_pd rfl (det_assign rfl) ?_
    refine JL_nil ?_
    refine JE_seq ?_
    refine JC_seq ?_
    refine JC_region ?_
    refine JL_pd rfl (det_move rfl) ?_
    refine JL_step rfl rfl rfl (jo_call rfl rfl Try.call22 rfl (hmj _ _)) fun x49 => ?_
    refine JL_pd rfl (det_move rfl) ?_
    refine JL_pd rfl (det_move rfl) ?_
    refine JL_step rfl rfl rfl (jo_callv rfl rfl Try.call23 rfl (htk _ _)) fun _ => ?_
    refine JL_pd rfl (det_move rfl) ?_
    refine JL_pd rfl (det_extract rfl rfl) ?_
    refine JL_pd rfl (det_extract rfl rfl) ?_
    refine JL_step rfl rfl rfl (jo_alloc0 Try.zeroValue36 rfl) fun b16 => ?_
    refine JL_step0 rfl rfl (jo_store rfl rfl rfl (by first | (simp only [splice_norm]; done) | (simp only [splice_norm]; rfl) | rfl) Try.sizeOf36 rfl rfl) fun _ => ?_
    refine JL_pd rfl (det_assign rfl) ?_
    refine JL_nil ?_
    refine JE_seq ?_
    refine JC_seq ?_
    refine JC_region ?_
    refine JL_pd rfl (det_move rfl) ?_
    refine JL_step rfl rfl rfl (jo_call rfl rfl Try.call22 rfl (hmj _ _)) fun x57 => ?_
    refine JL_step rfl rfl rfl (jo_call rfl rfl Try.call21 rfl (hls _ _)) fun x58 => ?_
    refine JL_pd rfl (det_move rfl) ?_
    refine JL_pd rfl (det_extract rfl rfl) ?_
    refine JL_pd rfl (det_extract rfl rfl) ?_
    refine JL_pd rfl (det_assign rfl) ?_
    refine JL_pd rfl (det_assign rfl) ?_
    refine JL_nil ?_
    refine JE_seq ?_
    refine JC_seq ?_
    refine JC_draw [] (by kernel_rfl) ?_
    refine JA_pd (i := 0) rfl (by kernel_rfl) rfl rfl (det_move rfl) ?_
    refine JA_pd (i := 1) rfl (by kernel_rfl) rfl rfl (det_eql rfl rfl) ?_
    refine JA_pd (i := 2) rfl (by kernel_rfl) rfl rfl (det_move rfl) ?_
    -- stop: guard 2
    skip
    refine JA_is (d0 := 63) true rfl (by first | rfl | exact decide_eq_true (by omega)) (fun g1 => ?_)
    refine JA_gpd (i := 3) rfl (by kernel_rfl) rfl rfl rfl rfl g1 (det_move rfl) ?_
    refine JA_gpd (i := 4) rfl (by kernel_rfl) rfl rfl rfl rfl g1 (det_eql rfl rfl) ?_
    refine JA_pd (i := 5) rfl (by kernel_rfl) rfl rfl (det_pick_t rfl g1 rfl) ?_
    refine JA_pd (i := 6) rfl (by kernel_rfl) rfl rfl (det_move rfl) ?_
    refine JA_is (d0 := 67) true rfl (by first | rfl | exact decide_eq_true (by omega)) (fun g2 => ?_)
    refine JA_gpd (i := 7) rfl (by kernel_rfl) rfl rfl rfl rfl g2 (det_move rfl) ?_
    refine JA_gpd (i := 8) rfl (by kernel_rfl) rfl rfl rfl rfl g2 (det_len rfl Try.runUnderlying22) ?_
    refine JA_gpd (i := 9) rfl (by kernel_rfl) rfl rfl rfl rfl g2 (det_move rfl) ?_
    refine JA_gpd (i := 10) rfl (by kernel_rfl) rfl rfl rfl rfl g2 (det_leq rfl rfl) ?_
    refine JA_pd (i := 11) rfl (by kernel_rfl) rfl rfl (det_pick_t rfl g2 rfl) ?_
    refine JA_pd (i := 12) rfl (by kernel_rfl) rfl rfl (det_move rfl) ?_
    refine JA_is (d0 := 73) true rfl (by first | rfl | exact decide_eq_true (by omega)) (fun g3 => ?_)
    refine JA_gpd (i := 13) rfl (by kernel_rfl) rfl rfl rfl rfl g3 (det_move rfl) ?_
    refine JA_gpd (i := 15) rfl (by kernel_rfl) rfl rfl rfl rfl g3 (det_move rfl) ?_
    refine JA_gone (i := 14) (by kernel_rfl) rfl rfl rfl g3 rfl (jo_call rfl rfl Try.call22 rfl (hmj _ _)) (fun _ => ⟨hsub_drop 0 rfl, fun _ h => h.2⟩) fun x75 => ?_
    refine JA_gone (i := 16) (by kernel_rfl) rfl rfl rfl g3 rfl (jo_call rfl rfl Try.call18 rfl (hlj _ _)) (fun _ => ⟨hsub_drop 0 rfl, fun _ h => h.2⟩) fun x77 => ?_
    refine JA_gone (i := 17) (by kernel_rfl) rfl rfl rfl g3 rfl (jo_callv rfl rfl Try.call50 rfl (hps _ _ _ _)) (fun _ => ⟨hsub_refl, fun _ h => h⟩) fun _ => ?_
    refine JA_pd (i := 18) rfl (by kernel_rfl) rfl rfl (det_pick_t rfl g3 rfl) ?_
    refine JA_pd (i := 19) rfl (by kernel_rfl) rfl rfl (det_move rfl) ?_
    refine JA_is (d0 := 80) true rfl (by first | rfl | exact decide_eq_true (by omega)) (fun g4 => ?_)
    refine JA_gpd (i := 20) rfl (by kernel_rfl) rfl rfl rfl rfl g4 (det_fieldAddr rfl fo_36_0) ?_
    refine JA_gdt (i := 21) rfl (by kernel_rfl) (by kernel_rfl) rfl rfl rfl rfl g4 (det_loadK rfl Try.isAgg3 rfl) ?_
    refine JA_gpd (i := 22) rfl (by kernel_rfl) rfl rfl rfl rfl g4 (det_move rfl) ?_
    refine JA_gpd (i := 23) rfl (by kernel_rfl) rfl rfl rfl rfl g4 (det_move rfl) ?_
    refine JA_gpd (i := 24) rfl (by kernel_rfl) rfl rfl rfl rfl g4 (det_move rfl) ?_
    refine JA_gone (i := 25) (by kernel_rfl) rfl rfl rfl g4 rfl (jo_callv rfl rfl Try.call38 rfl (hsj _ _)) (fun _ => ⟨hsub_refl, fun _ h => h⟩) fun _ => ?_
    refine JA_gpd (i := 26) rfl (by kernel_rfl) rfl rfl rfl rfl g4 (det_leq rfl rfl) ?_
    refine JA_pd (i := 27) rfl (by kernel_rfl) rfl rfl (det_pick_t rfl g4 rfl) ?_
    refine JA_pd (i := 28) rfl (by kernel_rfl) rfl rfl (det_move rfl) ?_
    refine JA_is (d0 := 89) true rfl (by first | rfl | exact decide_eq_true (by omega)) (fun g5 => ?_)
    refine JA_gpd (i := 29) rfl (by kernel_rfl) rfl rfl rfl rfl g5 (det_move rfl) ?_
    refine JA_gpd (i := 30) rfl (by kernel_rfl) rfl rfl rfl rfl g5 (det_move rfl) ?_
    refine JA_gpd (i := 31) rfl (by kernel_rfl) rfl rfl rfl rfl g5 (det_move rfl) ?_
    refine JA_gpd (i := 33) rfl (by kernel_rfl) rfl rfl rfl rfl g5 (det_fieldAddr rfl fo_36_1) ?_
    refine JA_gdt (i := 34) rfl (by kernel_rfl) (by kernel_rfl) rfl rfl rfl rfl g5 (det_loadK rfl Try.isAgg3 rfl) ?_
    refine JA_gone (i := 32) (by kernel_rfl) rfl rfl rfl g5 rfl (jo_callv rfl rfl Try.call38 rfl (hsj _ _)) (fun _ => ⟨hsub_refl, fun _ h => h⟩) fun _ => ?_
    refine JA_gpd (i := 35) rfl (by kernel_rfl) rfl rfl rfl rfl g5 (det_leq rfl rfl) ?_
    refine JA_pd (i := 36) rfl (by kernel_rfl) rfl rfl (det_pick_t rfl g5 rfl) ?_
    refine JA_pd (i := 37) rfl (by kernel_rfl) rfl rfl (det_move rfl) ?_
    refine JA_is (d0 := 98) true rfl (by first | rfl | exact decide_eq_true (by omega)) (fun g6 => ?_)
    refine JA_gone (i := 38) (by kernel_rfl) rfl rfl rfl g6 rfl (jo_callv rfl rfl Try.call16 rfl (awake_j)) (fun _ => ⟨hsub_refl, fun _ h => h⟩) fun _ => ?_
    refine JA_pd (i := 39) rfl (by kernel_rfl) rfl rfl (det_pick_t rfl g6 rfl) ?_
    refine JA_pd (i := 40) rfl (by kernel_rfl) rfl rfl (det_assign rfl) ?_
    refine JA_done (by kernel_rfl) ?_
    refine JE_seq ?_
    refine JC_ret ?_
    -- stop: out
    refine JE_out (.inl rfl) () (results1 Try.results13 (res_tmp rfl)) rfl (List.Perm.refl _) (fun _ _ => trivial)
theorem BillTruth_i (ws : List Int) (wa : Option Addr) (wc : Nat) (mn bits fn tn : Int) (hm : 0 ≤ mn ∧ mn ≤ 255) (hw : wordsOk ws) (hb : 0 ≤ bits ∧ bits ≤ 18446744073709551615) (hf : 0 ≤ fn ∧ fn ≤ 255) (ht : 0 ≤ tn ∧ tn ≤ 255) : Cv Try.prog 13 [.int .u8 mn, .slice wa ws.length wc, .int .u64 bits, .int .u8 fn, .int .u8 tn] (KSl wa ws.length wc encU ws) (.bool true) := by
  obtain ⟨a, rfl⟩ : ∃ n : Nat, mn = n := ⟨mn.toNat, by omega⟩
  obtain ⟨b, rfl⟩ : ∃ n : Nat, fn = n := ⟨fn.toNat, by omega⟩
  obtain ⟨c, rfl⟩ : ∃ n : Nat, tn = n := ⟨tn.toNat, by omega⟩
  exact BillTruth_j a ws wa wc bits b c (by omega) hw hb (by omega) (by omega)
end Go.Proofs.Ytjbmkdbgobmclaa
