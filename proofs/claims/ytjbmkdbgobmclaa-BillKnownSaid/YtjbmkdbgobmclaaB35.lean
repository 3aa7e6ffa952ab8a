/- The statements about bill: BillKnown. -/
import Derived.Test.YtjbmkdbgobmclaaB34
set_option linter.unusedSimpArgs false
set_option linter.unusedVariables false
namespace Go.Proofs.Ytjbmkdbgobmclaa
open Go.RowKit Go.Shelf

theorem sumR_congr : ∀ (s1 s2 : List Int) (k fr to_ : Int), s1.length = s2.length → (∀ i : Nat, fr ≤ k + i → k + i ≤ to_ → s1[i]? = s2[i]?) → sumR k s1 fr to_ = sumR k s2 fr to_
  | [], [], _, _, _, _, _ => rfl
  | [], y :: s2, _, _, _, h, _ => by simp at h
  | x :: s1, [], _, _, _, h, _ => by simp at h
  | x :: s1, y :: s2, k, fr, to_, h, he => by
    rw [sumR, sumR, sumR_congr s1 s2 (k + 1) fr to_ (by simpa using h) fun i h1 h2 => by
      have := he (i + 1) (by omega) (by omega)
      simpa using this]
    by_cases hk : inI k fr to_ = true
    · have h1 := inI_iff.1 hk
      have h2 := he 0 (by omega) (by omega)
      simp at h2
      rw [if_pos hk, if_pos hk, h2]
    · rw [if_neg hk, if_neg hk]
theorem known_eq {l : List Ms} {s1 s2 : List Int} {a b : Int} (h1 : Fits l s1) (h2 : Fits l s2) (hk : ∀ x ∈ lostR l, inI x a b = false) (ha : 1 ≤ a) (hb : b ≤ lastM l) : sumR 1 s1 a b = sumR 1 s2 a b := by
  refine sumR_congr s1 s2 1 a b (by have := h1.len; have := h2.len; omega) fun i hi1 hi2 => ?_
  have hno : ∃ m ∈ l, m.no = 1 + (i : Int) := by
    refine Classical.byContradiction fun hne => ?_
    have hm : 1 + (i : Int) ∈ lostR l := by
      unfold lostR
      rw [List.mem_filter, mem_rng]
      refine ⟨by omega, ?_⟩
      unfold goneB
      rw [Bool.not_eq_true', List.any_eq_false]
      intro m hm e
      exact hne ⟨m, hm, of_decide_eq_true e⟩
    have := hk _ hm
    rw [inI_iff.2 ⟨hi1, hi2⟩] at this
    cases this
  obtain ⟨m, hm, he⟩ := hno
  have e1 := h1.at_ m hm
  have e2 := h2.at_ m hm
  rw [show m.no.toNat - 1 = i from by omega] at e1 e2
  rw [e1, e2]
theorem known_val {l : List Ms} {s : List Int} {a b : Int} (hV : ∀ m ∈ l, VMs m) (h : Fits l s) (hk : ∀ x ∈ lostR l, inI x a b = false) (ha : 1 ≤ a) (hb : b ≤ lastM l) (hi : Bool) : takenV (if hi then muchG else littleG) (srtL l) a b = sumR 1 s a b := by
  obtain ⟨s', f, e⟩ := taken_ex hV ((fit_ex hV).2 ⟨s, h⟩) hi a b
  rw [← e]
  exact known_eq f h hk ha hb
theorem told_val {l : List Ms} {s : List Int} {m : Ms} (hV : ∀ m ∈ l, VMs m) (h : Fits l s) (hm : m ∈ l) (hi : Bool) : takenV (if hi then muchG else littleG) (srtL l) 1 m.no = m.total := by
  obtain ⟨s', f, e⟩ := taken_ex hV ((fit_ex hV).2 ⟨s, h⟩) hi 1 m.no
  have h1 := (hV m hm).n0
  rw [← e, sumR_take s' 1 1 m.no (Int.le_refl _) (by omega), show m.no + 1 - 1 = m.no from by omega, f.sum m hm]
  simp
theorem sumR_split (s : List Int) {a b c : Int} (h1 : 1 ≤ a) (h2 : a ≤ c) (h3 : c < b) : sumR 1 s a b = sumR 1 s a c + sumR 1 s (c + 1) b := by
  rw [sumR_take s 1 a b h1 (by omega), sumR_take s 1 a c h1 (by omega), sumR_take s 1 (c + 1) b (by omega) (by omega), show c + 1 - 1 = c from by omega]
  omega
theorem two_val {l : List Ms} (hV : ∀ m ∈ l, VMs m) (hf : fitB (srtL l) = true) {a b c : Int} (h1 : 1 ≤ a) (h2 : a ≤ c) (h3 : c < b) :
    takenV littleG (srtL l) a c + takenV littleG (srtL l) (c + 1) b ≤ takenV littleG (srtL l) a b ∧ takenV muchG (srtL l) a b ≤ takenV muchG (srtL l) a c + takenV muchG (srtL l) (c + 1) b := by
  obtain ⟨s1, f1, e1⟩ := taken_ex hV hf false a b
  obtain ⟨s2, f2, e2⟩ := taken_ex hV hf true a b
  rw [if_neg (by decide)] at e1
  rw [if_pos rfl] at e2
  rw [sumR_split _ h1 h2 h3] at e1 e2
  have p1 := taken_le hV f1 a c
  have p2 := taken_le hV f1 (c + 1) b
  have p3 := taken_le hV f2 a c
  have p4 := taken_le hV f2 (c + 1) b
  omega
set_option maxRecDepth 100000 in
set_option maxHeartbeats 4000000 in
theorem BillKnown_j (mn : Nat) (ws : List Int) (wa : Option Addr) (wc : Nat) (bits : Int) (fn tn : Nat) (hm : mn ≤ 255) (hw : wordsOk ws) (hb : 0 ≤ bits ∧ bits ≤ 18446744073709551615) (hf : fn ≤ 255) (ht : tn ≤ 255) : Cv Try.prog 9 [.int .u8 mn, .slice wa ws.length wc, .int .u64 bits, .int .u8 fn, .int .u8 tn] (KSl wa ws.length wc encU ws) (.bool true) := by
  have htj := Truly_j mn ws wa wc bits hm hw hb
  have hn60 : mn % 61 ≤ 60 := by omega
  generalize mn % 61 = N at htj hn60
  have hfit := tru_fits (bits := bits) hw N
  have hrd := tru_read (bits := bits) hw hn60
  have hV := told_ok (bits := bits) hw hn60
  have hlen := truS_len ws bits N
  have hml := told_len ws bits N
  generalize truS ws bits N = S at htj hfit hlen
  generalize toldL ws bits N = L at htj hfit hrd hV hlen hml
  have h60 := lastM_60 hV
  have hge := lastM_0 L
  refine Cx_of Try.func9 rfl Try.ntmps9 rfl fun w0 M0 => ?_
  refine JC_seq ?_
  refine JC_region ?_
  refine JL_pd rfl (det_assign rfl) ?_
  refine JL_nil ?_
  refine JE_seq ?_
  refine JC_seq ?_
  refine JC_region ?_
  refine JL_pd rfl (det_move rfl) ?_
  refine JL_pd rfl (det_move rfl) ?_
  refine JL_pd rfl (det_move rfl) ?_
  refine JL_step rfl rfl rfl (jo_call rfl rfl Try.call37 rfl (htj)) fun x34 => ?_
  refine JL_pd rfl (det_move rfl) ?_
  refine JL_pd rfl (det_extract rfl rfl) ?_
  refine JL_pd rfl (det_extract rfl rfl) ?_
  refine JL_pd rfl (det_assign rfl) ?_
  refine JL_pd rfl (det_assign rfl) ?_
  refine JL_nil ?_
  refine JE_seq ?_
  refine JC_seq ?_
  refine JC_seq ?_
  refine JC_region ?_
  refine JL_pd rfl (det_move rfl) ?_
  refine JL_pd rfl (det_len rfl Try.runUnderlying31) ?_
  refine JL_pd rfl (det_eql rfl rfl) ?_
  refine JL_nil ?_
  refine JE_seq ?_
  -- stop: cond
  refine JC_if rfl (fun h1 => ?_) (fun h1 => ?_)
  · refine JC_seq ?_
    refine JC_region ?_
    refine JL_step rfl rfl rfl (jo_callv rfl rfl Try.call16 rfl (awake_j)) fun _ => ?_
    refine JL_pd rfl (det_assign rfl) ?_
    refine JL_nil ?_
    refine JE_seq ?_
    refine JC_ret ?_
    refine JE_seq_ret ?_
    -- stop: out
    refine JE_out (.inl rfl) () (results1 Try.results9 (res_tmp rfl)) rfl (List.Perm.refl _) (fun _ _ => trivial)
  · have hne : L ≠ [] := fun e => h1 (by rw [e]; rfl)
    have hl1 : 1 ≤ lastM L := by
      obtain ⟨m, hm⟩ := List.exists_mem_of_ne_nil L hne
      have q1 := (hV m hm).n0
      have q2 := lastM_le hm
      omega
    obtain ⟨n, hn⟩ : ∃ n : Nat, S.length = n := ⟨_, rfl⟩
    have hn0 : 1 ≤ n ∧ n ≤ 60 := by omega
    obtain ⟨a, ha⟩ : ∃ a : Int, 1 + (fn : Int).tmod (n : Int) = a := ⟨_, rfl⟩
    have ha1 : 1 ≤ a ∧ a ≤ n := by
      rw [← ha, Int.tmod_eq_emod_of_nonneg (by omega)]
      have := Int.emod_nonneg (fn : Int) (show (n : Int) ≠ 0 by omega)
      have := Int.emod_lt_of_pos (fn : Int) (show 0 < (n : Int) by omega)
      omega
    obtain ⟨b, hbd⟩ : ∃ b : Int, a + (tn : Int).tmod ((n : Int) - a + 1) = b := ⟨_, rfl⟩
    have hb1 : a ≤ b ∧ b ≤ n := by
      rw [← hbd, Int.tmod_eq_emod_of_nonneg (by omega)]
      have := Int.emod_nonneg (tn : Int) (show (n : Int) - a + 1 ≠ 0 by omega)
      have := Int.emod_lt_of_pos (tn : Int) (show 0 < (n : Int) - a + 1 by omega)
      omega
    have hfr : 0 ≤ (fn : Int).tmod (n : Int) ∧ (fn : Int).tmod (n : Int) ≤ 60 := by omega
    have hmj := fun a2 c2 => lMsgs_j a2 c2 L (by omega)
    have hfb := (read_of hrd).2.2
    have hTk := fun (fr to_ : Int) (h1 : 1 ≤ fr) (h2 : fr ≤ to_) (h3 : to_ ≤ lastM L) a2 c2 => Taken_jo a2 c2 L (by omega) fr to_ (takenE_0 hrd hV h1 h2 h3)
    have htk := hTk a b ha1.1 hb1.1 (by omega)
    have hls := fun a2 c2 => Lost_jo a2 c2 L (by omega) hrd
    rw [lost_eq hV hfb] at hls
    have hll := lostR_len L
    have hsj := fun a2 c2 => sum_j a2 c2 S a b (by omega) hfit.ok ha1.1 hb1.1 (by omega)
    have hkv := fun hk => known_val hV hfit (a := a) (b := b) hk ha1.1 (by omega)
    have hk1 := fun hk => hkv hk false
    have hk2 := fun hk => hkv hk true
    clear hkv
    simp only [if_true, if_false, Bool.false_eq_true] at hk1 hk2
    have htm : ∀ m ∈ L, ∀ a2 c2, Cv Try.prog 23 [.slice a2 L.length c2, I 1, I m.no] (KSl a2 L.length c2 encM L) (.tuple #[.agg #[I m.total, I m.total], I 0]) := fun m hm a2 c2 => by
      have q := hTk 1 m.no (Int.le_refl _) (hV m hm).n0 (lastM_le hm) a2 c2
      have e1 := told_val hV hfit hm false
      have e2 := told_val hV hfit hm true
      rw [if_neg (by decide)] at e1
      rw [if_pos rfl] at e2
      rw [e1, e2] at q
      exact q
    have htb := taken_bd hV hfb a b
    have htw := fun c (h1 : a ≤ c) (h2 : c < b) => two_val hV hfb ha1.1 h1 h2
    have htbs := fun fr to_ => taken_bd hV hfb fr to_
    simp only [hn] at htk hls hsj
    generalize hlo : takenV littleG (srtL L) a b = lo at htk htb hk1 htw
    generalize hhi : takenV muchG (srtL L) a b = vh at htk htb hk2 htw
    generalize lostR L = X at hls hll hk1 hk2
    rw [hn]
    refine JC_skip ?_
    refine JE_seq ?_
    refine JC_seq ?_
    refine JC_region ?_
    refine JL_pd rfl (det_move rfl) ?_
    refine JL_pd rfl (det_len rfl Try.runUnderlying22) ?_
    refine JL_pd rfl (det_assign rfl) ?_
    refine JL_nil ?_
    refine JE_seq ?_
    refine JC_seq ?_
    refine JC_region ?_
    refine JL_pd rfl (det_move rfl) ?_
    refine JL_pd rfl (det_convI rfl Try.runUnderlying5 Try.runUnderlying3 (i64_wrap ⟨by omega, by omega⟩)) ?_
    refine JL_pd rfl (det_move rfl) ?_
    refine JL_pd rfl (det_rem rfl rfl (by omega)) ?_
    refine JL_pd rfl (det_addR a rfl rfl (by rw [ha]; exact i64_wrap ⟨by omega, by omega⟩)) ?_
    refine JL_pd rfl (det_assign rfl) ?_
    refine JL_nil ?_
    refine JE_seq ?_
    refine JC_seq ?_
    refine JC_region ?_
    refine JL_pd rfl (det_move rfl) ?_
    refine JL_pd rfl (det_move rfl) ?_
    refine JL_pd rfl (det_convI rfl Try.runUnderlying5 Try.runUnderlying3 (i64_wrap ⟨by omega, by omega⟩)) ?_
    refine JL_pd rfl (det_move rfl) ?_
    refine JL_pd rfl (det_move rfl) ?_
    refine JL_pd rfl (det_sub rfl rfl ⟨by omega, by omega⟩) ?_
    refine JL_pd rfl (det_add rfl rfl ⟨by omega, by omega⟩) ?_
    refine JL_pd rfl (det_rem rfl rfl (by omega)) ?_
    refine JL_pd rfl (det_addR b rfl rfl (by rw [hbd]; exact i64_wrap ⟨by omega, by omega⟩)) ?_
    refine JL_pd rfl (det_assign rfl) ?_
    refine JL_nil ?_
    refine JE_seq ?_
    refine JC_seq ?_
    refine JC_region ?_
    refine JL_pd rfl (det_move rfl) ?_
    refine JL_step rfl rfl rfl (jo_call rfl rfl Try.call22 rfl (hmj _ _)) fun x59 => ?_
    refine JL_pd rfl (det_move rfl) ?_
    refine JL_pd rfl (det_move rfl) ?_
    refine JL_step rfl rfl rfl (jo_callv rfl rfl Try.call23 rfl (htk _ _)) fun _ => ?_
    refine JL_pd rfl (det_move rfl) ?_
    refine JL_pd rfl (det_extract rfl rfl) ?_
    refine JL_pd rfl (det_extract rfl rfl) ?_
    refine JL_step rfl rfl rfl (jo_alloc0 Try.zeroValue36 rfl) fun b16 => ?_
    refine JL_step0 rfl rfl (jo_store rfl rfl rfl (by first | (simp only [splice_norm]; done) | (simp only [splice_norm]; rfl) | rfl) Try.sizeOf36 rfl rfl) fun _ => ?_
    refine JL_pd rfl (det_assign rfl) ?_
    refine JL_nil ?_
    refine JE_seq ?_
    refine JC_seq ?_
    refine JC_region ?_
    refine JL_pd rfl (det_move rfl) ?_
    refine JL_step rfl rfl rfl (jo_call rfl rfl Try.call22 rfl (hmj _ _)) fun x67 => ?_
    refine JL_step rfl rfl rfl (jo_call rfl rfl Try.call21 rfl (hls _ _)) fun x68 => ?_
    refine JL_pd rfl (det_move rfl) ?_
    refine JL_pd rfl (det_extract rfl rfl) ?_
    refine JL_pd rfl (det_extract rfl rfl) ?_
    refine JL_pd rfl (det_assign rfl) ?_
    refine JL_pd rfl (det_assign rfl) ?_
    refine JL_nil ?_
    refine JE_seq ?_
    refine JC_seq ?_
    refine JC_seq ?_
    refine JC_region ?_
    refine JL_pd rfl (det_move rfl) ?_
    refine JL_pd rfl (det_neq rfl rfl) ?_
    refine JL_pd rfl (det_move rfl) ?_
    -- stop: guard 2
    skip
    refine JL_is (d0 := 73) false rfl (by first | rfl | exact decide_eq_true (by omega)) (fun g1 => ?_)
    refine JL_guard rfl rfl g1 ?_
    refine JL_pd rfl (det_move rfl) ?_
    refine JL_guard rfl rfl g1 ?_
    refine JL_pd rfl (det_neq rfl rfl) ?_
    refine JL_pd rfl (det_pick_f rfl g1 rfl) ?_
    refine JL_nil ?_
    refine JE_seq ?_
    -- stop: cond
    refine JC_ifn rfl (fun h2 => ?_) (fun h2 => ?_)
    · exact absurd rfl h2
    refine JC_skip ?_
    refine JE_seq ?_
    refine JC_seq ?_
    refine JC_region ?_
    refine JL_pd rfl (det_assign rfl) ?_
    refine JL_nil ?_
    refine JE_seq ?_
    refine JC_seq ?_
    refine JC_seq ?_
    refine JC_region ?_
    refine JL_pd rfl (det_assign rfl) ?_
    refine JL_nil ?_
    refine JE_seq ?_
    refine JC_block ?_
    -- stop: loop
    refine JC_keep b16 noFp ?_
    refine JC_loopF (γ := Nat) (fun i => i ≤ X.length) (fun i => [(21, I i), (20, .bool ((X.take i).all fun x => !inI x a b))]) (fun _ => []) (fun i => X.length - i) 0 (Nat.zero_le _) (stsub_consI rfl rfl (stsub_consB rfl rfl stsub_nil)) ht_nil ?_
    intro i hi K hK
    dsimp only [List.cons_append, List.nil_append]
    generalize hkb : ((X.take i).all fun x => !inI x a b) = kb
    refine JC_seq ?_
    refine JC_seq ?_
    refine JC_region ?_
    refine JL_pd rfl (det_move rfl) ?_
    refine JL_pd rfl (det_move rfl) ?_
    refine JL_pd rfl (det_len rfl Try.runUnderlying22) ?_
    refine JL_pd rfl (det_lss rfl rfl) ?_
    refine JL_nil ?_
    refine JE_seq ?_
    -- stop: cond
    refine JC_if rfl (fun h3 => ?_) (fun h3 => ?_)
    · have hi2 : i < X.length := by omega
      have hsn : ((X.take (i + 1)).all fun x => !inI x a b) = (kb && !inI X[i] a b) := by rw [take_snoc hi2, List.all_append, hkb]; simp
      cases kb with
      | true =>
        refine JC_skip ?_
        refine JE_seq ?_
        refine JC_seq ?_
        refine JC_block ?_
        refine JC_region ?_
        refine JL_pd rfl (det_move rfl) ?_
        refine JL_pd rfl (det_move rfl) ?_
        -- stop: guard 1
        refine JL_is (d0 := 84) true rfl (by rfl) (fun g1 => ?_)
        refine JL_guard rfl rfl g1 ?_
        refine JL_pd rfl (det_move rfl) ?_
        refine JL_guard rfl rfl g1 ?_
        refine JL_pd rfl (det_move rfl) ?_
        refine JL_guard rfl rfl g1 ?_
        refine JL_dt rfl (det_indexAddr rfl rfl (by first | rfl | omega) (by first | assumption | omega | decide) Try.runUnderlying22 Try.sizeOf3) ?_
        refine JL_guard rfl rfl g1 ?_
        refine JL_dt rfl (det_loadE rfl (by first | assumption | omega | decide) Try.isAgg3 rfl rfl) ?_
        refine JL_guard rfl rfl g1 ?_
        refine JL_pd rfl (det_move rfl) ?_
        refine JL_guard rfl rfl g1 ?_
        refine JL_pd rfl (det_move rfl) ?_
        refine JL_guard rfl rfl g1 ?_
        refine JL_step rfl rfl rfl (jo_callv rfl rfl Try.call27 rfl (In_j _ _ _)) fun _ => ?_
        refine JL_guard rfl rfl g1 ?_
        refine JL_pd rfl (det_not rfl) ?_
        refine JL_pd rfl (det_pick_t rfl g1 rfl) ?_
        refine JL_pd rfl (det_assign rfl) ?_
        refine JL_nil ?_
        refine JE_block ?_
        refine JE_seq ?_
        refine JC_region ?_
        refine JL_pd rfl (det_move rfl) ?_
        refine JL_pd rfl (det_add rfl rfl ⟨by omega, by omega⟩) ?_
        refine JL_pd rfl (det_assign rfl) ?_
        refine JL_nil ?_
        -- stop: end
        refine JE_roundF hK (i + 1) (by omega) (by omega) (stsub_consI rfl (by omega) (stsub_consB rfl (by rw [hsn]; rfl) stsub_nil)) ht_nil
      | false =>
        refine JC_skip ?_
        refine JE_seq ?_
        refine JC_seq ?_
        refine JC_block ?_
        refine JC_region ?_
        refine JL_pd rfl (det_move rfl) ?_
        refine JL_pd rfl (det_move rfl) ?_
        -- stop: guard 1
        refine JL_is (d0 := 84) false rfl (by rfl) (fun g1 => ?_)
        refine JL_skip rfl rfl g1 rfl ?_
        refine JL_skip rfl rfl g1 rfl ?_
        refine JL_skip rfl rfl g1 rfl ?_
        refine JL_skip rfl rfl g1 rfl ?_
        refine JL_skip rfl rfl g1 rfl ?_
        refine JL_skip rfl rfl g1 rfl ?_
        refine JL_skip rfl rfl g1 rfl ?_
        refine JL_skip rfl rfl g1 rfl ?_
        refine JL_pd rfl (det_pick_f rfl g1 rfl) ?_
        refine JL_pd rfl (det_assign rfl) ?_
        refine JL_nil ?_
        refine JE_block ?_
        refine JE_seq ?_
        refine JC_region ?_
        refine JL_pd rfl (det_move rfl) ?_
        refine JL_pd rfl (det_add rfl rfl ⟨by omega, by omega⟩) ?_
        refine JL_pd rfl (det_assign rfl) ?_
        refine JL_nil ?_
        -- stop: end
        refine JE_roundF hK (i + 1) (by omega) (by omega) (stsub_consI rfl (by omega) (stsub_consB rfl (by rw [hsn]; rfl) stsub_nil)) ht_nil
    · obtain rfl : i = X.length := by omega
      rw [List.take_length] at hkb
      have hkn : kb = true → ∀ x ∈ X, inI x a b = false := fun e x hx => by
        rw [e] at hkb
        have := List.all_eq_true.1 hkb x hx
        simpa using this
      refine JC_exit ?_
      refine JE_seq_exit ?_
      refine JE_then_exit ?_
      refine JE_block_here ?_
      refine JE_seq ?_
      refine JC_seq ?_
      refine JC_seq ?_
      -- stop: draw
      refine JC_cutK (γ := Unit) (fun _ => True) (fun _ => [(110, .bool false)]) (fun _ => []) (fun _ => KTrue) [] (fun K hK => ?_) (fun _ _ => ?_)
      · refine JC_draw [] (by kernel_rfl) ?_
        refine JA_pd (i := 0) rfl (by kernel_rfl) rfl rfl (det_move rfl) ?_
        refine JA_pd (i := 1) rfl (by kernel_rfl) rfl rfl (det_move rfl) ?_
        -- stop: guard 1
        cases kb with
        | true =>
          have k1 := hk1 (hkn rfl)
          have k2 := hk2 (hkn rfl)
          refine JA_is (d0 := 95) true rfl (by rfl) (fun g1 => ?_)
          refine JA_gpd (i := 2) rfl (by kernel_rfl) rfl rfl rfl rfl g1 (det_fieldAddr rfl fo_36_0) ?_
          refine JA_gdt (i := 3) rfl (by kernel_rfl) (by kernel_rfl) rfl rfl rfl rfl g1 (det_loadK rfl Try.isAgg3 rfl) ?_
          refine JA_gpd (i := 4) rfl (by kernel_rfl) rfl rfl rfl rfl g1 (det_move rfl) ?_
          refine JA_gpd (i := 5) rfl (by kernel_rfl) rfl rfl rfl rfl g1 (det_move rfl) ?_
          refine JA_gpd (i := 6) rfl (by kernel_rfl) rfl rfl rfl rfl g1 (det_move rfl) ?_
          refine JA_gone (i := 7) (by kernel_rfl) rfl rfl rfl g1 rfl (jo_callv rfl rfl Try.call38 rfl (hsj _ _)) (fun _ => ⟨hsub_refl, fun _ h => h⟩) fun _ => ?_
          refine JA_gpd (i := 8) rfl (by kernel_rfl) rfl rfl rfl rfl g1 (det_neq rfl rfl) ?_
          refine JA_gpd (i := 9) rfl (by kernel_rfl) rfl rfl rfl rfl g1 (det_move rfl) ?_
          -- stop: guard 9
          refine JA_is (d0 := 103) false rfl (by rw [decide_eq_true k1]; rfl) (fun g2 => ?_)
          refine JA_gpd (i := 10) rfl (by kernel_rfl) rfl rfl rfl rfl g2 (det_fieldAddr rfl fo_36_1) ?_
          refine JA_gdt (i := 11) rfl (by kernel_rfl) (by kernel_rfl) rfl rfl rfl rfl g2 (det_loadK rfl Try.isAgg3 rfl) ?_
          refine JA_gpd (i := 12) rfl (by kernel_rfl) rfl rfl rfl rfl g2 (det_fieldAddr rfl fo_36_0) ?_
          refine JA_gdt (i := 13) rfl (by kernel_rfl) (by kernel_rfl) rfl rfl rfl rfl g2 (det_loadK rfl Try.isAgg3 rfl) ?_
          refine JA_gpd (i := 14) rfl (by kernel_rfl) rfl rfl rfl rfl g2 (det_neq rfl rfl) ?_
          refine JA_gpd (i := 15) rfl (by kernel_rfl) rfl rfl rfl rfl g1 (det_pick_f rfl g2 rfl) ?_
          refine JA_pd (i := 16) rfl (by kernel_rfl) rfl rfl (det_pick_t rfl g1 rfl) ?_
          refine JA_done (by kernel_rfl) ?_
          -- stop: end
          exact JE_cutK hK () trivial (stsub_consB rfl (by rw [decide_eq_true (show vh = lo by rw [k1, k2])]; rfl) stsub_nil) ht_nil
        | false =>
          refine JA_is (d0 := 95) false rfl (by rfl) (fun g1 => ?_)
          refine JA_skip (i := 2) rfl (by kernel_rfl) rfl rfl rfl rfl g1 ?_
          refine JA_skip (i := 3) rfl (by kernel_rfl) rfl rfl rfl rfl g1 ?_
          refine JA_skip (i := 4) rfl (by kernel_rfl) rfl rfl rfl rfl g1 ?_
          refine JA_skip (i := 5) rfl (by kernel_rfl) rfl rfl rfl rfl g1 ?_
          refine JA_skip (i := 6) rfl (by kernel_rfl) rfl rfl rfl rfl g1 ?_
          refine JA_skip (i := 7) rfl (by kernel_rfl) rfl rfl rfl rfl g1 ?_
          refine JA_skip (i := 8) rfl (by kernel_rfl) rfl rfl rfl rfl g1 ?_
          refine JA_skip (i := 9) rfl (by kernel_rfl) rfl rfl rfl rfl g1 ?_
          refine JA_skipU (i := 10) rfl (by kernel_rfl) rfl rfl rfl rfl ?_
          refine JA_skipU (i := 11) rfl (by kernel_rfl) rfl rfl rfl rfl ?_
          refine JA_skipU (i := 12) rfl (by kernel_rfl) rfl rfl rfl rfl ?_
          refine JA_skipU (i := 13) rfl (by kernel_rfl) rfl rfl rfl rfl ?_
          refine JA_skipU (i := 14) rfl (by kernel_rfl) rfl rfl rfl rfl ?_
          refine JA_skip (i := 15) rfl (by kernel_rfl) rfl rfl rfl rfl g1 ?_
          refine JA_pd (i := 16) rfl (by kernel_rfl) rfl rfl (det_pick_f rfl g1 rfl) ?_
          refine JA_done (by kernel_rfl) ?_
          -- stop: end
          exact JE_cutK hK () trivial (stsub_consB rfl rfl stsub_nil) ht_nil
      · dsimp only [List.cons_append, List.nil_append]
        -- stop: cond
        refine JC_cond rfl (fun h4 => ?_) (fun h4 => ?_)
        · cases h4
        refine JC_skip ?_
        refine JE_seq ?_
        refine JC_seq ?_
        refine JC_seq ?_
        refine JC_region ?_
        refine JL_pd rfl (det_assign rfl) ?_
        refine JL_nil ?_
        refine JE_seq ?_
        refine JC_block ?_
        -- stop: loop
        refine JC_loopF (γ := Nat) (fun i => i ≤ L.length) (fun i => [(22, I i)]) (fun _ => []) (fun i => L.length - i) 0 (Nat.zero_le _) (stsub_consI rfl rfl stsub_nil) ht_nil ?_
        intro i hi K hK
        dsimp only [List.cons_append, List.nil_append]
        refine JC_seq ?_
        refine JC_seq ?_
        refine JC_region ?_
        refine JL_pd rfl (det_move rfl) ?_
        refine JL_pd rfl (det_move rfl) ?_
        refine JL_pd rfl (det_len rfl Try.runUnderlying31) ?_
        refine JL_pd rfl (det_lss rfl rfl) ?_
        refine JL_nil ?_
        refine JE_seq ?_
        -- stop: cond
        refine JC_if rfl (fun h5 => ?_) (fun h5 => ?_)
        · have hi2 : i < L.length := by omega
          have hmi := htm _ (List.getElem_mem hi2)
          refine JC_skip ?_
          refine JE_seq ?_
          refine JC_seq ?_
          refine JC_block ?_
          refine JC_seq ?_
          -- stop: draw
          refine JC_cutF (γ := Nat) (fun _ => True) (fun b23 => [(23, pt b23), (24, I 0)]) (fun b23 => [bx b23 [I L[i].total, I L[i].total]]) [] (fun K hK => ?_) (fun b23 _ => ?_)
          · refine JC_draw [12] (by kernel_rfl) ?_
            refine JA_pd (i := 0) rfl (by kernel_rfl) rfl rfl (det_move rfl) ?_
            refine JA_pd (i := 2) rfl (by kernel_rfl) rfl rfl (det_move rfl) ?_
            refine JA_pd (i := 3) rfl (by kernel_rfl) rfl rfl (det_move rfl) ?_
            refine JA_dt (i := 4) rfl (by kernel_rfl) (by kernel_rfl) rfl rfl (det_indexAddr rfl rfl (by first | rfl | omega) (by first | assumption | omega | decide) Try.runUnderlying31 Try.sizeOf74) ?_
            refine JA_pd (i := 5) rfl (by kernel_rfl) rfl rfl (det_fieldAddrE rfl fo_74_0) ?_
            refine JA_dt (i := 6) rfl (by kernel_rfl) (by kernel_rfl) rfl rfl (det_loadEk rfl (by first | assumption | omega | decide) Try.isAgg3 rfl rfl) ?_
            refine JA_ready (rs := [1, 11]) (by kernel_rfl) rfl ?_
            refine JAl_cons (i := 1) rfl rfl (jo_call rfl rfl Try.call22 rfl (hmj _ _)) (fun _ => ⟨hsub_drop 0 rfl, fun _ h => h.2⟩) (fun x119 => ?_) ?_
            · refine JA_ready (rs := [7, 11]) (by kernel_rfl) rfl ?_
              refine JAl_cons (i := 7) rfl rfl (jo_callv rfl rfl Try.call23 rfl (hmi _ _)) (fun _ => ⟨hsub_refl, fun _ h => h⟩) (fun _ => ?_) ?_
              · refine JA_pd (i := 8) rfl (by kernel_rfl) rfl rfl (det_move rfl) ?_
                refine JA_pd (i := 9) rfl (by kernel_rfl) rfl rfl (det_extract rfl rfl) ?_
                refine JA_pd (i := 10) rfl (by kernel_rfl) rfl rfl (det_extract rfl rfl) ?_
                refine JA_one (i := 11) (by kernel_rfl) rfl rfl (jo_alloc0 Try.zeroValue36 rfl) (fun _ => ⟨hsub_drop 1 rfl, fun _ h => h⟩) fun b23 => ?_
                refine JA_tail (i := 12) (by kernel_rfl) rfl rfl rfl rfl (jo_store rfl rfl rfl (by first | (simp only [splice_norm]; done) | (simp only [splice_norm]; rfl) | rfl) Try.sizeOf36 rfl rfl) fun _ => ?_
                refine JT_pd (i := 13) rfl (by kernel_rfl) rfl rfl (det_assign rfl) ?_
                refine JT_done (by kernel_rfl) ?_
                exact JE_cutF hK b23 trivial (stsub_cons rfl (stsub_cons rfl stsub_nil)) (ht_bx rfl ht_nil)
              refine JAl_cons (i := 11) rfl rfl (jo_alloc0 Try.zeroValue36 rfl) (fun _ => ⟨hsub_drop 1 rfl, fun _ h => h⟩) (fun b23 => ?_) ?_
              · refine JA_one (i := 7) (by kernel_rfl) rfl rfl (jo_callv rfl rfl Try.call23 rfl (hmi _ _)) (fun _ => ⟨hsub_refl, fun _ h => h⟩) fun _ => ?_
                refine JA_pd (i := 8) rfl (by kernel_rfl) rfl rfl (det_move rfl) ?_
                refine JA_pd (i := 9) rfl (by kernel_rfl) rfl rfl (det_extract rfl rfl) ?_
                refine JA_pd (i := 10) rfl (by kernel_rfl) rfl rfl (det_extract rfl rfl) ?_
                refine JA_tail (i := 12) (by kernel_rfl) rfl rfl rfl rfl (jo_store rfl rfl rfl (by first | (simp only [splice_norm]; done) | (simp only [splice_norm]; rfl) | rfl) Try.sizeOf36 rfl rfl) fun _ => ?_
                refine JT_pd (i := 13) rfl (by kernel_rfl) rfl rfl (det_assign rfl) ?_
                refine JT_done (by kernel_rfl) ?_
                exact JE_cutF hK b23 trivial (stsub_cons rfl (stsub_cons rfl stsub_nil)) (ht_bx rfl ht_nil)
              exact JAl_nil
            refine JAl_cons (i := 11) rfl rfl (jo_alloc0 Try.zeroValue36 rfl) (fun _ => ⟨hsub_drop 1 rfl, fun _ h => h⟩) (fun b23 => ?_) ?_
            · refine JA_one (i := 1) (by kernel_rfl) rfl rfl (jo_call rfl rfl Try.call22 rfl (hmj _ _)) (fun _ => ⟨hsub_drop 0 rfl, fun _ h => h.2⟩) fun x119 => ?_
              refine JA_one (i := 7) (by kernel_rfl) rfl rfl (jo_callv rfl rfl Try.call23 rfl (hmi _ _)) (fun _ => ⟨hsub_refl, fun _ h => h⟩) fun _ => ?_
              refine JA_pd (i := 8) rfl (by kernel_rfl) rfl rfl (det_move rfl) ?_
              refine JA_pd (i := 9) rfl (by kernel_rfl) rfl rfl (det_extract rfl rfl) ?_
              refine JA_pd (i := 10) rfl (by kernel_rfl) rfl rfl (det_extract rfl rfl) ?_
              refine JA_tail (i := 12) (by kernel_rfl) rfl rfl rfl rfl (jo_store rfl rfl rfl (by first | (simp only [splice_norm]; done) | (simp only [splice_norm]; rfl) | rfl) Try.sizeOf36 rfl rfl) fun _ => ?_
              refine JT_pd (i := 13) rfl (by kernel_rfl) rfl rfl (det_assign rfl) ?_
              refine JT_done (by kernel_rfl) ?_
              exact JE_cutF hK b23 trivial (stsub_cons rfl (stsub_cons rfl stsub_nil)) (ht_bx rfl ht_nil)
            exact JAl_nil
          dsimp only [List.cons_append, List.nil_append]
          refine JC_seq ?_
          refine JC_draw [] (by kernel_rfl) ?_
          refine JA_pd (i := 0) rfl (by kernel_rfl) rfl rfl (det_move rfl) ?_
          refine JA_pd (i := 1) rfl (by kernel_rfl) rfl rfl (det_neq rfl rfl) ?_
          refine JA_pd (i := 2) rfl (by kernel_rfl) rfl rfl (det_move rfl) ?_
          -- stop: guard 2
          skip
          refine JA_is (d0 := 130) false rfl (by first | rfl | exact congrArg not (decide_eq_true rfl)) (fun g1 => ?_)
          refine JA_gpd (i := 3) rfl (by kernel_rfl) rfl rfl rfl rfl g1 (det_fieldAddr rfl fo_36_0) ?_
          refine JA_gdt (i := 4) rfl (by kernel_rfl) (by kernel_rfl) rfl rfl rfl rfl g1 (det_loadK rfl Try.isAgg3 rfl) ?_
          refine JA_gpd (i := 5) rfl (by kernel_rfl) rfl rfl rfl rfl g1 (det_move rfl) ?_
          refine JA_gpd (i := 6) rfl (by kernel_rfl) rfl rfl rfl rfl g1 (det_move rfl) ?_
          refine JA_gdt (i := 7) rfl (by kernel_rfl) (by kernel_rfl) rfl rfl rfl rfl g1 (det_indexAddr rfl rfl (by first | rfl | omega) (by first | assumption | omega | decide) Try.runUnderlying31 Try.sizeOf74) ?_
          refine JA_gpd (i := 8) rfl (by kernel_rfl) rfl rfl rfl rfl g1 (det_fieldAddrE rfl fo_74_2) ?_
          refine JA_gdt (i := 9) rfl (by kernel_rfl) (by kernel_rfl) rfl rfl rfl rfl g1 (det_loadEk rfl (by first | assumption | omega | decide) Try.isAgg3 rfl rfl) ?_
          refine JA_gpd (i := 10) rfl (by kernel_rfl) rfl rfl rfl rfl g1 (det_neq rfl rfl) ?_
          refine JA_pd (i := 11) rfl (by kernel_rfl) rfl rfl (det_pick_f rfl g1 rfl) ?_
          refine JA_pd (i := 12) rfl (by kernel_rfl) rfl rfl (det_move rfl) ?_
          refine JA_is (d0 := 140) false rfl (by first | rfl | exact congrArg not (decide_eq_true rfl)) (fun g2 => ?_)
          refine JA_gpd (i := 13) rfl (by kernel_rfl) rfl rfl rfl rfl g2 (det_fieldAddr rfl fo_36_1) ?_
          refine JA_gdt (i := 14) rfl (by kernel_rfl) (by kernel_rfl) rfl rfl rfl rfl g2 (det_loadK rfl Try.isAgg3 rfl) ?_
          refine JA_gpd (i := 15) rfl (by kernel_rfl) rfl rfl rfl rfl g2 (det_fieldAddr rfl fo_36_0) ?_
          refine JA_gdt (i := 16) rfl (by kernel_rfl) (by kernel_rfl) rfl rfl rfl rfl g2 (det_loadK rfl Try.isAgg3 rfl) ?_
          refine JA_gpd (i := 17) rfl (by kernel_rfl) rfl rfl rfl rfl g2 (det_neq rfl rfl) ?_
          refine JA_pd (i := 18) rfl (by kernel_rfl) rfl rfl (det_pick_f rfl g2 rfl) ?_
          refine JA_done (by kernel_rfl) ?_
          refine JE_seq ?_
          -- stop: cond
          refine JC_ifn rfl (fun h6 => ?_) (fun h6 => ?_)
          · exact absurd rfl h6
          refine JC_skip ?_
          refine JE_block ?_
          refine JE_seq ?_
          refine JC_region ?_
          refine JL_pd rfl (det_move rfl) ?_
          refine JL_pd rfl (det_add rfl rfl ⟨by omega, by omega⟩) ?_
          refine JL_pd rfl (det_assign rfl) ?_
          refine JL_nil ?_
          -- stop: end
          refine JE_roundF hK (i + 1) (by omega) (by omega) (stsub_consI rfl (by omega) stsub_nil) ht_nil
        · skip
          refine JC_exit ?_
          refine JE_seq_exit ?_
          refine JE_then_exit ?_
          refine JE_block_here ?_
          refine JE_seq ?_
          refine JC_seq ?_
          refine JC_seq ?_
          refine JC_region ?_
          refine JL_pd rfl (det_move rfl) ?_
          refine JL_pd rfl (det_move rfl) ?_
          refine JL_pd rfl (det_eql rfl rfl) ?_
          refine JL_nil ?_
          refine JE_seq ?_
          -- stop: cond
          refine JC_if rfl (fun h6 => ?_) (fun h6 => ?_)
          · refine JC_seq ?_
            refine JC_region ?_
            refine JL_step rfl rfl rfl (jo_callv rfl rfl Try.call16 rfl (awake_j)) fun _ => ?_
            refine JL_pd rfl (det_assign rfl) ?_
            refine JL_nil ?_
            refine JE_seq ?_
            refine JC_ret ?_
            refine JE_seq_ret ?_
            -- stop: out
            refine JE_out (.inl rfl) () (results1 Try.results9 (res_tmp rfl)) rfl (List.Perm.refl _) (fun _ _ => trivial)
          · obtain ⟨c, hc⟩ : ∃ c : Int, (a + b).tdiv 2 = c := ⟨_, rfl⟩
            have hc1 : a ≤ c ∧ c < b := by
              rw [← hc, Int.tdiv_eq_ediv_of_nonneg (by omega)]
              omega
            have hk3 := hTk a c ha1.1 hc1.1 (by omega)
            have hk4 := hTk (c + 1) b (by omega) (by omega) (by omega)
            have hw2 := htw c hc1.1 hc1.2
            have hb3 := htbs a c
            have hb4 := htbs (c + 1) b
            generalize takenV littleG (srtL L) a c = l3 at hk3 hw2 hb3
            generalize takenV muchG (srtL L) a c = h3 at hk3 hw2 hb3
            generalize takenV littleG (srtL L) (c + 1) b = l4 at hk4 hw2 hb4
            generalize takenV muchG (srtL L) (c + 1) b = h4 at hk4 hw2 hb4
            refine JC_skip ?_
            refine JE_seq ?_
            refine JC_seq ?_
            refine JC_region ?_
            refine JL_pd rfl (det_move rfl) ?_
            refine JL_pd rfl (det_move rfl) ?_
            refine JL_pd rfl (det_add rfl rfl ⟨by omega, by omega⟩) ?_
            refine JL_pd rfl (det_quo rfl rfl (by decide) (by rw [hc]; exact ⟨by omega, by omega⟩)) ?_
            refine JL_pd rfl (det_assign rfl) ?_
            refine JL_nil ?_
            refine JE_seq ?_
            refine JC_seq ?_
            refine JC_region ?_
            refine JL_pd rfl (det_move rfl) ?_
            refine JL_step rfl rfl rfl (jo_call rfl rfl Try.call22 rfl (hmj _ _)) fun x157 => ?_
            refine JL_pd rfl (det_move rfl) ?_
            refine JL_pd rfl (det_move rfl) ?_
            -- stop: op  4 t160 := (call (Call (value f23) (t157 t158 t159) (33 3 3)))   <1 2 3 1>   282
            rw [hc]
            refine JL_step rfl rfl rfl (jo_callv rfl rfl Try.call23 rfl (hk3 x157.1 x157.2)) fun _ => ?_
            refine JL_pd rfl (det_move rfl) ?_
            refine JL_pd rfl (det_extract rfl rfl) ?_
            refine JL_pd rfl (det_extract rfl rfl) ?_
            refine JL_step rfl rfl rfl (jo_alloc0 Try.zeroValue36 rfl) fun b26 => ?_
            refine JL_step0 rfl rfl (jo_store rfl rfl rfl (by first | (simp only [splice_norm]; done) | (simp only [splice_norm]; rfl) | rfl) Try.sizeOf36 rfl rfl) fun _ => ?_
            refine JL_pd rfl (det_assign rfl) ?_
            refine JL_nil ?_
            refine JE_seq ?_
            refine JC_seq ?_
            refine JC_region ?_
            refine JL_pd rfl (det_move rfl) ?_
            refine JL_step rfl rfl rfl (jo_call rfl rfl Try.call22 rfl (hmj _ _)) fun x165 => ?_
            refine JL_pd rfl (det_move rfl) ?_
            refine JL_pd rfl (det_add rfl rfl ⟨by omega, by omega⟩) ?_
            refine JL_pd rfl (det_move rfl) ?_
            -- stop: op  5 t169 := (call (Call (value f23) (t165 t167 t168) (33 3 3)))   <1 3 4 1>   283
            refine JL_step rfl rfl rfl (jo_callv rfl rfl Try.call23 rfl (hk4 x165.1 x165.2)) fun _ => ?_
            refine JL_pd rfl (det_move rfl) ?_
            refine JL_pd rfl (det_extract rfl rfl) ?_
            refine JL_pd rfl (det_extract rfl rfl) ?_
            refine JL_step rfl rfl rfl (jo_alloc0 Try.zeroValue36 rfl) fun b28 => ?_
            refine JL_step0 rfl rfl (jo_store rfl rfl rfl (by first | (simp only [splice_norm]; done) | (simp only [splice_norm]; rfl) | rfl) Try.sizeOf36 rfl rfl) fun _ => ?_
            refine JL_pd rfl (det_assign rfl) ?_
            refine JL_nil ?_
            refine JE_seq ?_
            refine JC_seq ?_
            refine JC_region ?_
            refine JL_pd rfl (det_move rfl) ?_
            refine JL_pd rfl (det_eql rfl rfl) ?_
            refine JL_pd rfl (det_move rfl) ?_
            -- stop: guard 2
            skip
            refine JL_is (d0 := 174) true rfl (by first | rfl | exact decide_eq_true (by omega)) (fun g1 => ?_)
            refine JL_guard rfl rfl g1 ?_
            refine JL_pd rfl (det_move rfl) ?_
            refine JL_guard rfl rfl g1 ?_
            refine JL_pd rfl (det_eql rfl rfl) ?_
            refine JL_pd rfl (det_pick_t rfl g1 rfl) ?_
            refine JL_pd rfl (det_move rfl) ?_
            refine JL_is (d0 := 178) true rfl (by first | rfl | exact decide_eq_true (by omega)) (fun g2 => ?_)
            refine JL_guard rfl rfl g2 ?_
            refine JL_pd rfl (det_fieldAddr rfl fo_36_0) ?_
            refine JL_guard rfl rfl g2 ?_
            refine JL_dt rfl (det_loadK rfl Try.isAgg3 rfl) ?_
            refine JL_guard rfl rfl g2 ?_
            refine JL_pd rfl (det_fieldAddr rfl fo_36_0) ?_
            refine JL_guard rfl rfl g2 ?_
            refine JL_dt rfl (det_loadK rfl Try.isAgg3 rfl) ?_
            refine JL_guard rfl rfl g2 ?_
            refine JL_pd rfl (det_fieldAddr rfl fo_36_0) ?_
            refine JL_guard rfl rfl g2 ?_
            refine JL_dt rfl (det_loadK rfl Try.isAgg3 rfl) ?_
            refine JL_guard rfl rfl g2 ?_
            refine JL_pd rfl (det_add rfl rfl ⟨by omega, by omega⟩) ?_
            refine JL_guard rfl rfl g2 ?_
            refine JL_pd rfl (det_geq rfl rfl) ?_
            refine JL_pd rfl (det_pick_t rfl g2 rfl) ?_
            refine JL_pd rfl (det_move rfl) ?_
            refine JL_is (d0 := 188) true rfl (by first | rfl | exact decide_eq_true (by omega)) (fun g3 => ?_)
            refine JL_guard rfl rfl g3 ?_
            refine JL_pd rfl (det_fieldAddr rfl fo_36_1) ?_
            refine JL_guard rfl rfl g3 ?_
            refine JL_dt rfl (det_loadK rfl Try.isAgg3 rfl) ?_
            refine JL_guard rfl rfl g3 ?_
            refine JL_pd rfl (det_fieldAddr rfl fo_36_1) ?_
            refine JL_guard rfl rfl g3 ?_
            refine JL_dt rfl (det_loadK rfl Try.isAgg3 rfl) ?_
            refine JL_guard rfl rfl g3 ?_
            refine JL_pd rfl (det_fieldAddr rfl fo_36_1) ?_
            refine JL_guard rfl rfl g3 ?_
            refine JL_dt rfl (det_loadK rfl Try.isAgg3 rfl) ?_
            refine JL_guard rfl rfl g3 ?_
            refine JL_pd rfl (det_add rfl rfl ⟨by omega, by omega⟩) ?_
            refine JL_guard rfl rfl g3 ?_
            refine JL_pd rfl (det_leq rfl rfl) ?_
            refine JL_pd rfl (det_pick_t rfl g3 rfl) ?_
            refine JL_pd rfl (det_move rfl) ?_
            refine JL_is (d0 := 198) true rfl (by first | rfl | exact decide_eq_true (by omega)) (fun g4 => ?_)
            refine JL_guard rfl rfl g4 ?_
            refine JL_step rfl rfl rfl (jo_callv rfl rfl Try.call16 rfl (awake_j)) fun _ => ?_
            refine JL_pd rfl (det_pick_t rfl g4 rfl) ?_
            refine JL_pd rfl (det_assign rfl) ?_
            refine JL_nil ?_
            refine JE_seq ?_
            refine JC_ret ?_
            -- stop: out
            refine JE_out (.inl rfl) () (results1 Try.results9 (res_tmp rfl)) rfl (List.Perm.refl _) (fun _ _ => trivial)
theorem BillKnown_i (ws : List Int) (wa : Option Addr) (wc : Nat) (mn bits fn tn : Int) (hm : 0 ≤ mn ∧ mn ≤ 255) (hw : wordsOk ws) (hb : 0 ≤ bits ∧ bits ≤ 18446744073709551615) (hf : 0 ≤ fn ∧ fn ≤ 255) (ht : 0 ≤ tn ∧ tn ≤ 255) : Cv Try.prog 9 [.int .u8 mn, .slice wa ws.length wc, .int .u64 bits, .int .u8 fn, .int .u8 tn] (KSl wa ws.length wc encU ws) (.bool true) := by
  obtain ⟨a, rfl⟩ : ∃ n : Nat, mn = n := ⟨mn.toNat, by omega⟩
  obtain ⟨b, rfl⟩ : ∃ n : Nat, fn = n := ⟨fn.toNat, by omega⟩
  obtain ⟨c, rfl⟩ : ∃ n : Nat, tn = n := ⟨tn.toNat, by omega⟩
  exact BillKnown_j a ws wa wc bits b c (by omega) hw hb (by omega) (by omega)
end Go.Proofs.Ytjbmkdbgobmclaa
