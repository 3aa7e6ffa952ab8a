/- Own texts, laid together: L10 OT. Nothing is asked. -/
import Derived.Test.YthpkgabckklojaaTD
import Derived.Test.YthpkgabckklojaaT4
set_option linter.unusedSimpArgs false
set_option linter.unusedVariables false
/- The statement TopPrized: the walk. -/
namespace Go.Proofs.Ythpkgabckklojaa.Bl
open Go.RowKit Go.Shelf

def encU (n : Int) : List Value := [.int .u16 n]
instance : Rec encU 1 := ⟨fun _ => rfl, by decide⟩
def wordsOk (ws : List Int) : Prop := ∀ x ∈ ws, 0 ≤ x ∧ x ≤ 65535
def wAt (ws : List Int) (i : Nat) : Int := if ws.length = 0 then 1 else ws.getD (i % ws.length) 0
def oAt (ws : List Int) (i : Nat) : Int := 1 + (wAt ws i).tmod 3
def osL (ws : List Int) (k : Nat) : List Int := (List.range k).map (oAt ws)
theorem osL_len (ws : List Int) (k : Nat) : (osL ws k).length = k := by simp [osL]
theorem osL_snoc (ws : List Int) (k : Nat) : osL ws (k + 1) = osL ws k ++ [oAt ws k] := by simp [osL, List.range_succ]
theorem wAt_bd {ws : List Int} (hw : wordsOk ws) (i : Nat) : 0 ≤ wAt ws i ∧ wAt ws i ≤ 65535 := by
  unfold wAt
  split
  · omega
  · rename_i h
    have hl : i % ws.length < ws.length := Nat.mod_lt _ (by omega)
    rw [List.getD_eq_getElem?_getD, List.getElem?_eq_getElem hl]
    exact hw _ (List.getElem_mem hl)
theorem oAt_bd {ws : List Int} (hw : wordsOk ws) (i : Nat) : 1 ≤ oAt ws i ∧ oAt ws i ≤ 3 := by
  have h := wAt_bd hw i
  unfold oAt
  rw [Int.tmod_eq_emod_of_nonneg h.1]
  omega
theorem osL_bd {ws : List Int} (hw : wordsOk ws) (k : Nat) : ∀ o ∈ osL ws k, 1 ≤ o ∧ o ≤ 3 := fun o ho => by
  obtain ⟨i, _, rfl⟩ := List.mem_map.1 ho
  exact oAt_bd hw i
set_option maxRecDepth 100000 in
set_option maxHeartbeats 2000000 in
theorem TopPrized_j (n : Int) (a : Option Addr) (c : Nat) (l : List Gm) (wa : Option Addr) (wc : Nat) (ws : List Int) (pz : Int) (hw : wordsOk ws) (hp : 0 ≤ pz ∧ pz ≤ 65535) :
    Cv Try.prog 4 [.agg #[I n, .slice a l.length c], .slice wa ws.length wc, .int .u16 pz] (KAnd (KSl a l.length c encG l) (KSl wa ws.length wc encU ws)) (.bool true) := by
  refine Cx_of Try.func4 rfl Try.ntmps4 rfl fun w0 M0 => ?_
  refine JC_seq ?_
  refine JC_region ?_
  refine JL_step rfl rfl rfl (jo_box rfl rfl) fun b3 => ?_
  refine JL_pd rfl (det_assign rfl) ?_
  refine JL_nil ?_
  refine JE_seq ?_
  refine JC_seq ?_
  refine JC_seq ?_
  refine JC_region ?_
  refine JL_dt rfl (det_loadKA rfl Try.isAgg47 Try.sizeOf47 rfl rfl) ?_
  refine JL_step rfl rfl rfl (jo_callv rfl rfl Try.call12 rfl (gThin_j n a c l)) fun _ => ?_
  refine JL_pd rfl (det_not rfl) ?_
  refine JL_pd rfl (det_move rfl) ?_
  -- stop: guard 3
  refine JL_join1 10 32 (.bool (!(decide (l.length ≤ 24) && (decide (lgE n l = 0) && !decide (l.length = 0))))) (fun hj => ?_) ?_
  · refine JL_split (d0 := 22) rfl (fun q1 => ?_) (fun q1 => ?_)
    · refine JL_skip rfl rfl q1 rfl ?_
      refine JL_skip rfl rfl q1 rfl ?_
      refine JL_skip rfl rfl q1 rfl ?_
      refine JL_pd rfl (det_pick_t rfl q1 rfl) ?_
      refine JL_pd rfl (det_move rfl) ?_
      refine JL_skip rfl rfl rfl rfl ?_
      refine JL_skip rfl rfl rfl rfl ?_
      refine JL_skip rfl rfl rfl rfl ?_
      refine JL_skip rfl rfl rfl rfl ?_
      refine JL_pd rfl (det_pick_t rfl rfl rfl) ?_
      exact hj (by kernel_rfl) (stsub_consB rfl (by clear hj; first | rfl | (simp only [q1, Bool.and_true, Bool.true_and, Bool.false_and, Bool.and_false, Bool.or_true, Bool.true_or, Bool.or_false, Bool.false_or, Bool.not_true, Bool.not_false]; done) | (simp [q1]; done) | (simp at q1; done) | (simp [q1] <;> omega) | (exfalso; simp at q1; omega)) stsub_nil)
    · refine JL_guard rfl rfl q1 ?_
      refine JL_dt rfl (det_loadKA rfl Try.isAgg47 Try.sizeOf47 rfl rfl) ?_
      refine JL_guard rfl rfl q1 ?_
      refine JL_step rfl rfl rfl (jo_callv rfl rfl Try.call13 rfl (gFault_j n a c l)) fun _ => ?_
      refine JL_guard rfl rfl q1 ?_
      refine JL_pd rfl (det_neq rfl rfl) ?_
      refine JL_pd rfl (det_pick_f rfl q1 rfl) ?_
      refine JL_pd rfl (det_move rfl) ?_
      refine JL_split (d0 := 27) rfl (fun q2 => ?_) (fun q2 => ?_)
      · refine JL_skip rfl rfl q2 rfl ?_
        refine JL_skip rfl rfl q2 rfl ?_
        refine JL_skip rfl rfl q2 rfl ?_
        refine JL_skip rfl rfl q2 rfl ?_
        refine JL_pd rfl (det_pick_t rfl q2 rfl) ?_
        exact hj (by kernel_rfl) (stsub_consB rfl (by clear hj; first | rfl | (simp only [q1, q2, Bool.and_true, Bool.true_and, Bool.false_and, Bool.and_false, Bool.or_true, Bool.true_or, Bool.or_false, Bool.false_or, Bool.not_true, Bool.not_false]; done) | (simp [q1, q2]; done) | (simp at q1; done) | (simp at q2; done) | (simp [q1, q2] <;> omega) | (exfalso; simp at q1 q2; omega) | (simp [q2] at q1; done) | (simp [q1] at q2; done)) stsub_nil)
      · refine JL_guard rfl rfl q2 ?_
        refine JL_pd rfl (det_fieldAddr rfl fo_47_1) ?_
        refine JL_guard rfl rfl q2 ?_
        refine JL_dt rfl (det_loadK rfl Try.isAgg45 rfl) ?_
        refine JL_guard rfl rfl q2 ?_
        refine JL_pd rfl (det_len rfl Try.runUnderlying45) ?_
        refine JL_guard rfl rfl q2 ?_
        refine JL_pd rfl (det_eql rfl rfl) ?_
        refine JL_pd rfl (det_pick_f rfl q2 rfl) ?_
        exact hj (by kernel_rfl) (stsub_consB rfl (by clear hj; first | rfl | (simp only [q1, q2, Bool.and_true, Bool.true_and, Bool.false_and, Bool.and_false, Bool.or_true, Bool.true_or, Bool.or_false, Bool.false_or, Bool.not_true, Bool.not_false]; done) | (simp [q1, q2]; done) | (simp at q1; done) | (simp at q2; done) | (simp [q1, q2] <;> omega) | (exfalso; simp at q1 q2; omega) | (simp [q2] at q1; done) | (simp [q1] at q2; done)) stsub_nil)
  refine JL_nil ?_
  refine JE_seq ?_
  -- stop: cond
  refine JC_cond rfl (fun h1 => ?_) (fun h1 => ?_)
  · refine JC_seq ?_
    refine JC_region ?_
    refine JL_step rfl rfl rfl (jo_callv rfl rfl Try.call14 rfl (charged_j)) fun _ => ?_
    refine JL_pd rfl (det_assign rfl) ?_
    refine JL_nil ?_
    refine JE_seq ?_
    refine JC_ret ?_
    refine JE_seq_ret ?_
    -- stop: out
    refine JE_out (.inl rfl) () (results1 Try.results4 (res_tmp rfl)) rfl (List.Perm.refl _) (fun _ _ => trivial)
  · simp only [Bool.not_eq_false', Bool.and_eq_true, decide_eq_true_eq, Bool.not_eq_true', decide_eq_false_iff_not] at h1
    obtain ⟨hl24, hE, hl0⟩ := h1
    have V := lg_of hE
    have hl := V.l1
    have hn0 := V.n0
    have hn1 := V.n1
    have hne : l ≠ [] := fun e => hl0 (by rw [e]; rfl)
    have hol : (opnL l).length ≤ l.length := List.length_filter_le _ _
    refine JC_skip ?_
    refine JE_seq ?_
    refine JC_seq ?_
    refine JC_region ?_
    refine JL_pd rfl (det_assign rfl) ?_
    refine JL_nil ?_
    refine JE_seq ?_
    refine JC_seq ?_
    refine JC_seq ?_
    refine JC_region ?_
    refine JL_pd rfl (det_assign rfl) ?_
    refine JL_nil ?_
    refine JE_seq ?_
    refine JC_block ?_
    -- stop: loop
    refine JC_pure (p := ws.length ≤ 9223372036854775807) (by intro w h; exact h.2.1.bd) fun hz => ?_
    refine JC_nil 5 1 ?_
    refine JC_loopF (γ := Nat × Value) (fun q => q.1 ≤ (opnL l).length) (fun q => [(8, I q.1), (7, q.2)]) (fun q => [ow q.2 5 1 q.1 ((osL ws q.1).flatMap encB)]) (fun q => (opnL l).length - q.1) (0, .slice none 0 0) (Nat.zero_le _) (stsub_consI rfl rfl (stsub_cons rfl stsub_nil)) (ht_ow rfl rfl ht_nil) ?_
    rintro ⟨i, v⟩ hi K hK
    dsimp only [List.cons_append, List.nil_append] at hi ⊢
    have hwb := wAt_bd hw i
    have hob := oAt_bd hw i
    have hos := osL_snoc ws i
    have hfl : (osL ws i).flatMap encB ++ [.int .u8 (oAt ws i)] = (osL ws (i + 1)).flatMap encB := by rw [hos, List.flatMap_append]; rfl
    have hrm : 0 ≤ (wAt ws i).tmod 3 ∧ (wAt ws i).tmod 3 ≤ 2 := by unfold oAt at hob; omega
    refine JC_seq ?_
    refine JC_seq ?_
    refine JC_region ?_
    refine JL_pd rfl (det_move rfl) ?_
    refine JL_dt rfl (det_loadKA rfl Try.isAgg47 Try.sizeOf47 rfl rfl) ?_
    refine JL_step rfl rfl rfl (jo_callv rfl rfl Try.call15 rfl (gOpen_j n a c l (by omega))) fun _ => ?_
    refine JL_pd rfl (det_lss rfl rfl) ?_
    refine JL_nil ?_
    refine JE_seq ?_
    -- stop: cond
    refine JC_if rfl (fun h2 => ?_) (fun h2 => ?_)
    · have hi2 : i < (opnL l).length := by omega
      refine JC_skip ?_
      refine JE_seq ?_
      refine JC_seq ?_
      refine JC_block ?_
      refine JC_seq ?_
      refine JC_region ?_
      refine JL_pd rfl (det_assign rfl) ?_
      refine JL_nil ?_
      refine JE_seq ?_
      refine JC_seq ?_
      refine JC_seq ?_
      refine JC_region ?_
      refine JL_pd rfl (det_move rfl) ?_
      refine JL_pd rfl (det_len rfl Try.runUnderlying48) ?_
      refine JL_pd rfl (det_gtr rfl rfl) ?_
      refine JL_nil ?_
      refine JE_seq ?_
      -- stop: cond
      refine JC_if rfl (fun h3 => ?_) (fun h3 => ?_)
      · obtain ⟨r, hr⟩ : ∃ r : Nat, r = i % ws.length := ⟨_, rfl⟩
        have hri : ((i : Nat) : Int).tmod (ws.length : Int) = (r : Int) := by rw [hr, Int.tmod_eq_emod_of_nonneg (by omega)]; exact (Int.natCast_emod i ws.length).symm
        have hrl : r < ws.length := by rw [hr]; exact Nat.mod_lt _ (by omega)
        have hwi : ws[r] = wAt ws i := by
          unfold wAt
          rw [if_neg (by omega), ← hr, List.getD_eq_getElem?_getD, List.getElem?_eq_getElem hrl]; rfl
        refine JC_region ?_
        refine JL_pd rfl (det_move rfl) ?_
        refine JL_pd rfl (det_move rfl) ?_
        refine JL_pd rfl (det_move rfl) ?_
        refine JL_pd rfl (det_len rfl Try.runUnderlying48) ?_
        refine JL_pd rfl (det_rem rfl rfl (by omega)) ?_
        refine JL_dt rfl (det_indexAddr (i := r) rfl rfl hri hrl Try.runUnderlying48 Try.sizeOf49) ?_
        refine JL_dt rfl (det_loadE rfl (by first | assumption | omega | decide) Try.isAgg49 rfl rfl) ?_
        refine JL_pd rfl (det_assign rfl) ?_
        refine JL_nil ?_
        refine JE_seq ?_
        refine JC_region ?_
        refine JL_pd rfl (det_move rfl) ?_
        refine JL_pd rfl (det_move rfl) ?_
        refine JL_pd rfl (det_rem rfl rfl (by omega)) ?_
        refine JL_pd rfl (det_addR (oAt ws i) rfl rfl (by rw [hwi]; exact u16_wrap ⟨by omega, by omega⟩)) ?_
        refine JL_pd rfl (det_convI rfl Try.runUnderlying49 Try.runUnderlying5 (u8_wrap ⟨by omega, by omega⟩)) ?_
        refine JL_step rfl rfl rfl (jo_buildSlice rfl (bsl_52_1_0 _)) fun b55 => ?_
        refine JL_step rfl rfl rfl (jo_append el_52 rfl rfl rfl rfl (by omega)) fun b56 => ?_
        refine JL_pd rfl (det_assign rfl) ?_
        refine JL_nil ?_
        refine JE_block ?_
        refine JE_seq ?_
        refine JC_region ?_
        refine JL_pd rfl (det_move rfl) ?_
        refine JL_pd rfl (det_add rfl rfl ⟨by omega, by omega⟩) ?_
        refine JL_pd rfl (det_assign rfl) ?_
        refine JL_nil ?_
        -- stop: end
        refine JE_roundF hK (i + 1, .slice (some ⟨b56.1, 0, none⟩) (i + 1) b56.2) (by simp only; omega) (by simp only; omega) (stsub_consI rfl (by simp only; omega) (stsub_cons rfl stsub_nil)) (ht_ow rfl hfl ht_nil)
      · have hwi : wAt ws i = 1 := by unfold wAt; rw [if_pos (by omega)]
        refine JC_skip ?_
        refine JE_seq ?_
        refine JC_region ?_
        refine JL_pd rfl (det_move rfl) ?_
        refine JL_pd rfl (det_move rfl) ?_
        refine JL_pd rfl (det_rem rfl rfl (by omega)) ?_
        refine JL_pd rfl (det_addR (oAt ws i) rfl rfl (by rw [show (1 : Int).tmod 3 = (wAt ws i).tmod 3 by rw [hwi]]; exact u16_wrap ⟨by omega, by omega⟩)) ?_
        refine JL_pd rfl (det_convI rfl Try.runUnderlying49 Try.runUnderlying5 (u8_wrap ⟨by omega, by omega⟩)) ?_
        refine JL_step rfl rfl rfl (jo_buildSlice rfl (bsl_52_1_0 _)) fun b55 => ?_
        refine JL_step rfl rfl rfl (jo_append el_52 rfl rfl rfl rfl (by omega)) fun b56 => ?_
        refine JL_pd rfl (det_assign rfl) ?_
        refine JL_nil ?_
        refine JE_block ?_
        refine JE_seq ?_
        refine JC_region ?_
        refine JL_pd rfl (det_move rfl) ?_
        refine JL_pd rfl (det_add rfl rfl ⟨by omega, by omega⟩) ?_
        refine JL_pd rfl (det_assign rfl) ?_
        refine JL_nil ?_
        -- stop: end
        refine JE_roundF hK (i + 1, .slice (some ⟨b56.1, 0, none⟩) (i + 1) b56.2) (by simp only; omega) (by simp only; omega) (stsub_consI rfl (by simp only; omega) (stsub_cons rfl stsub_nil)) (ht_ow rfl hfl ht_nil)
    · obtain rfl : i = (opnL l).length := by omega
      refine JC_slice (enc := encB) (v := v) (osL ws (opnL l).length) noFp rfl (osL_len ws _).symm ?_
      rintro oa oc rfl
      obtain ⟨m, hm⟩ : ∃ m : Nat, n = (m : Int) := ⟨n.toNat, by omega⟩
      have hmm : n.toNat = m := by omega
      obtain ⟨os, hosE⟩ : ∃ os, os = osL ws (opnL l).length := ⟨_, rfl⟩
      have ho : os.length = (opnL l).length := by rw [hosE, osL_len]
      have hos : ∀ o ∈ os, 1 ≤ o ∧ o ≤ 3 := by rw [hosE]; exact osL_bd hw _
      rw [← hosE]
      obtain ⟨P, hP⟩ : ∃ P, P = ptsL n (aftF l ((opnL l).zip os)) := ⟨_, rfl⟩
      have hPl : P.length = m := by rw [hP, ptsL_len, hmm]
      have hsh := share_ok V hne ho hos hp
      rw [← hP] at hsh
      obtain ⟨VS, hW⟩ := share_of hsh
      refine JC_exit ?_
      refine JE_seq_exit ?_
      refine JE_then_exit ?_
      refine JE_block_here ?_
      refine JE_seq ?_
      refine JC_seq ?_
      refine JC_region ?_
      refine JL_dt rfl (det_loadKA rfl Try.isAgg47 Try.sizeOf47 rfl rfl) ?_
      refine JL_step rfl rfl rfl (jo_call rfl rfl Try.call17 rfl (gLeague_j n a c l (by omega))) fun x59 => ?_
      refine JL_pd rfl (det_move rfl) ?_
      -- stop: op  3 t61 := (call (Call (value f16) (t59 t60) (56 52)))   <1 2 1>   89
      have hA := After_j n x59.1 x59.2 l oa oc os V ho hos
      rw [← hP, ho, hmm] at hA
      refine JL_step rfl rfl rfl (jo_call rfl rfl Try.call16 rfl (hA)) fun xp => ?_
      refine JL_pd rfl (det_move rfl) ?_
      refine JL_pd rfl (det_extract rfl rfl) ?_
      refine JL_pd rfl (det_extract rfl rfl) ?_
      refine JL_pd rfl (det_assign rfl) ?_
      refine JL_pd rfl (det_assign rfl) ?_
      refine JL_nil ?_
      refine JE_seq ?_
      refine JC_seq ?_
      refine JC_seq ?_
      refine JC_region ?_
      refine JL_pd rfl (det_move rfl) ?_
      refine JL_pd rfl (det_neq rfl rfl) ?_
      refine JL_pd rfl (det_move rfl) ?_
      -- stop: guard 2
      refine JL_join1 6 72 (.bool false) (fun hj => ?_) ?_
      · refine JL_split (d0 := 66) rfl (fun q3 => ?_) (fun q3 => ?_)
        · refine JL_skip rfl rfl q3 rfl ?_
          refine JL_skip rfl rfl q3 rfl ?_
          refine JL_skip rfl rfl q3 rfl ?_
          refine JL_skip rfl rfl q3 rfl ?_
          refine JL_skip rfl rfl q3 rfl ?_
          refine JL_pd rfl (det_pick_t rfl q3 rfl) ?_
          exact hj (by kernel_rfl) (stsub_consB rfl (by clear hj; first | rfl | (simp only [q3, Bool.and_true, Bool.true_and, Bool.false_and, Bool.and_false, Bool.or_true, Bool.true_or, Bool.or_false, Bool.false_or, Bool.not_true, Bool.not_false]; done) | (simp [q3]; done) | (simp at q3; done) | (simp [q3] <;> omega) | (exfalso; simp at q3; omega)) stsub_nil)
        · refine JL_guard rfl rfl q3 ?_
          refine JL_pd rfl (det_move rfl) ?_
          refine JL_guard rfl rfl q3 ?_
          refine JL_pd rfl (det_len rfl Try.runUnderlying26) ?_
          refine JL_guard rfl rfl q3 ?_
          refine JL_pd rfl (det_fieldAddr rfl fo_47_0) ?_
          refine JL_guard rfl rfl q3 ?_
          refine JL_dt rfl (det_loadK rfl Try.isAgg3 rfl) ?_
          refine JL_guard rfl rfl q3 ?_
          refine JL_pd rfl (det_neq rfl rfl) ?_
          refine JL_pd rfl (det_pick_f rfl q3 rfl) ?_
          exact hj (by kernel_rfl) (stsub_consB rfl (by clear hj; first | rfl | (simp only [q3, Bool.and_true, Bool.true_and, Bool.false_and, Bool.and_false, Bool.or_true, Bool.true_or, Bool.or_false, Bool.false_or, Bool.not_true, Bool.not_false]; done) | (simp [q3]; done) | (simp at q3; done) | (simp [q3] <;> omega) | (exfalso; simp at q3; omega)) stsub_nil)
      refine JL_nil ?_
      refine JE_seq ?_
      refine JC_condF rfl rfl ?_
      refine JC_skip ?_
      refine JE_seq ?_
      refine JC_seq ?_
      refine JC_region ?_
      refine JL_pd rfl (det_move rfl) ?_
      refine JL_pd rfl (det_convI rfl Try.runUnderlying49 Try.runUnderlying3 (i64_wrap ⟨by omega, by omega⟩)) ?_
      refine JL_pd rfl (det_move rfl) ?_
      refine JL_nilS 3 1 ?_
      refine JL_step rfl rfl rfl (jo_appendK (e := encI) el_26 rfl rfl encI_one (by omega)) fun b77 => ?_
      -- stop: op  4 t78 := (call (Call (value f18) (t75 t77) (3 26)))   <1 3 3>   93
      refine JL_slice (enc := encI) (v := b77) P noFp (by simp) (by omega) ?_
      rintro pa pc rfl
      refine JL_know (R' := KAnd (KSl pa P.length pc encI P) _) (fun w h => ⟨by have hq := Knows.know (F := KSl pa (0 + m) pc encI P) w h; rwa [Nat.zero_add, ← hPl] at hq, h⟩) ?_
      rw [Nat.zero_add, ← hPl]
      have hSl := sharesV_len pz P
      have hnP : n.toNat = P.length := by omega
      refine JL_step rfl rfl rfl (jo_call rfl rfl Try.call18 rfl (Share_jv pz pa pc P hsh)) fun xs => ?_
      refine JL_pd rfl (det_move rfl) ?_
      refine JL_pd rfl (det_extract rfl rfl) ?_
      refine JL_pd rfl (det_extract rfl rfl) ?_
      refine JL_pd rfl (det_assign rfl) ?_
      refine JL_pd rfl (det_assign rfl) ?_
      refine JL_nil ?_
      refine JE_seq ?_
      refine JC_seq ?_
      refine JC_seq ?_
      refine JC_region ?_
      refine JL_pd rfl (det_move rfl) ?_
      refine JL_pd rfl (det_neq rfl rfl) ?_
      refine JL_pd rfl (det_move rfl) ?_
      -- stop: guard 2
      refine JL_join1 6 89 (.bool false) (fun hj => ?_) ?_
      · refine JL_split (d0 := 83) rfl (fun q4 => ?_) (fun q4 => ?_)
        · refine JL_skip rfl rfl q4 rfl ?_
          refine JL_skip rfl rfl q4 rfl ?_
          refine JL_skip rfl rfl q4 rfl ?_
          refine JL_skip rfl rfl q4 rfl ?_
          refine JL_skip rfl rfl q4 rfl ?_
          refine JL_pd rfl (det_pick_t rfl q4 rfl) ?_
          exact hj (by kernel_rfl) (stsub_consB rfl (by clear hj; first | rfl | (simp only [q4, Bool.and_true, Bool.true_and, Bool.false_and, Bool.and_false, Bool.or_true, Bool.true_or, Bool.or_false, Bool.false_or, Bool.not_true, Bool.not_false]; done) | (simp [q4]; done) | (simp at q4; done) | (simp [q4] <;> omega) | (exfalso; simp at q4; omega)) stsub_nil)
        · refine JL_guard rfl rfl q4 ?_
          refine JL_pd rfl (det_move rfl) ?_
          refine JL_guard rfl rfl q4 ?_
          refine JL_pd rfl (det_len rfl Try.runUnderlying26) ?_
          refine JL_guard rfl rfl q4 ?_
          refine JL_pd rfl (det_move rfl) ?_
          refine JL_guard rfl rfl q4 ?_
          refine JL_pd rfl (det_len rfl Try.runUnderlying26) ?_
          refine JL_guard rfl rfl q4 ?_
          refine JL_pd rfl (det_neq rfl rfl) ?_
          refine JL_pd rfl (det_pick_f rfl q4 rfl) ?_
          exact hj (by kernel_rfl) (stsub_consB rfl (by clear hj; first | rfl | (simp only [q4, Bool.and_true, Bool.true_and, Bool.false_and, Bool.and_false, Bool.or_true, Bool.true_or, Bool.or_false, Bool.false_or, Bool.not_true, Bool.not_false]; done) | (simp [q4]; done) | (simp at q4; done) | (simp [q4] <;> omega) | (exfalso; simp at q4; omega)) stsub_nil)
      refine JL_nil ?_
      refine JE_seq ?_
      refine JC_condF rfl rfl ?_
      refine JC_skip ?_
      refine JE_seq ?_
      refine JC_seq ?_
      refine JC_region ?_
      refine JL_pd rfl (det_assign rfl) ?_
      refine JL_nil ?_
      refine JE_seq ?_
      refine JC_seq ?_
      refine JC_seq ?_
      refine JC_region ?_
      refine JL_pd rfl (det_assign rfl) ?_
      refine JL_nil ?_
      refine JE_seq ?_
      refine JC_block ?_
      -- stop: loop
      have hpb := fun k : Nat => paid_bd VS hW k
      have hsg : ∀ i (h : i < (sharesV pz P).length), (sharesV pz P)[i] = paidV pz P (i + 1) - paidV pz P i := fun i h => sharesV_get h
      refine JC_loopF (γ := Nat) (fun i => i ≤ (sharesV pz P).length) (fun i => [(15, I i), (14, I (paidV pz P i))]) (fun _ => []) (fun i => (sharesV pz P).length - i) 0 (Nat.zero_le _) (stsub_consI rfl rfl (stsub_consI rfl (paid_0 pz P).symm stsub_nil)) ht_nil ?_
      intro i hi K hK
      dsimp only [List.cons_append, List.nil_append]
      have hb0 := hpb i
      have hb1 := hpb (i + 1)
      have hs0 := VS.s1
      refine JC_seq ?_
      refine JC_seq ?_
      refine JC_region ?_
      refine JL_pd rfl (det_move rfl) ?_
      refine JL_pd rfl (det_move rfl) ?_
      refine JL_pd rfl (det_len rfl Try.runUnderlying26) ?_
      refine JL_pd rfl (det_lss rfl rfl) ?_
      refine JL_nil ?_
      refine JE_seq ?_
      -- stop: cond
      refine JC_if rfl (fun h2 => ?_) (fun h2 => ?_)
      · have hi2 : i < (sharesV pz P).length := by omega
        have hi3 : i < P.length := by omega
        have hsi := hsg i hi2
        have hup := paid_up VS hW i hi3
        have hz0 : P[i] = 0 → (sharesV pz P)[i] = 0 := fun e => by rw [hsi]; exact hup.2.2.2.2 e
        have hbs : paidV pz P i + (sharesV pz P)[i] = paidV pz P (i + 1) := by omega
        have hSu := fun q : Option Addr × Nat => Surely_j n q.1 q.2 l V i (by omega)
        refine JC_skip ?_
        refine JE_seq ?_
        refine JC_seq ?_
        refine JC_block ?_
        refine JC_seq ?_
        refine JC_region ?_
        refine JL_pd rfl (det_move rfl) ?_
        refine JL_pd rfl (det_move rfl) ?_
        refine JL_pd rfl (det_move rfl) ?_
        refine JL_dt rfl (det_indexAddr rfl rfl (by first | rfl | omega) (by first | assumption | omega | decide) Try.runUnderlying26 Try.sizeOf3) ?_
        refine JL_dt rfl (det_loadE rfl (by first | assumption | omega | decide) Try.isAgg3 rfl rfl) ?_
        refine JL_pd rfl (det_add rfl rfl ⟨by omega, by omega⟩) ?_
        refine JL_pd rfl (det_assign rfl) ?_
        refine JL_nil ?_
        refine JE_seq ?_
        refine JC_seq ?_
        refine JC_region ?_
        refine JL_dt rfl (det_loadKA rfl Try.isAgg47 Try.sizeOf47 rfl rfl) ?_
        refine JL_step rfl rfl rfl (jo_call rfl rfl Try.call17 rfl (gLeague_j n a c l (by omega))) fun x104 => ?_
        refine JL_pd rfl (det_move rfl) ?_
        refine JL_step rfl rfl rfl (jo_callv rfl rfl Try.call19 rfl (hSu x104)) fun _ => ?_
        refine JL_pd rfl (det_move rfl) ?_
        refine JL_pd rfl (det_extract rfl rfl) ?_
        refine JL_pd rfl (det_extract rfl rfl) ?_
        refine JL_pd rfl (det_assign rfl) ?_
        refine JL_pd rfl (det_assign rfl) ?_
        refine JL_nil ?_
        refine JE_seq ?_
        refine JC_seq ?_
        refine JC_seq ?_
        refine JC_region ?_
        refine JL_pd rfl (det_move rfl) ?_
        refine JL_pd rfl (det_neq rfl rfl) ?_
        refine JL_pd rfl (det_move rfl) ?_
        -- stop: guard 2
        refine JL_join1 13 124 (.bool false) (fun hj => ?_) ?_
        · refine JL_split (d0 := 111) rfl (fun q5 => ?_) (fun q5 => ?_)
          · refine JL_skip rfl rfl q5 rfl ?_
            refine JL_skip rfl rfl q5 rfl ?_
            refine JL_skip rfl rfl q5 rfl ?_
            refine JL_skip rfl rfl q5 rfl ?_
            refine JL_skip rfl rfl q5 rfl ?_
            refine JL_skip rfl rfl q5 rfl ?_
            refine JL_skipU rfl rfl rfl ?_
            refine JL_skipU rfl rfl rfl ?_
            refine JL_skipU rfl rfl rfl ?_
            refine JL_skipU rfl rfl rfl ?_
            refine JL_skipU rfl rfl rfl ?_
            refine JL_skip rfl rfl q5 rfl ?_
            refine JL_pd rfl (det_pick_t rfl q5 rfl) ?_
            exact hj (by kernel_rfl) (stsub_consB rfl (by clear hj; first | rfl | (have h9 := of_decide_eq_true q6; simp [hz0 h9]; done) | (simp [q5, q6]; done) | (simp at q5; done) | (simp [q6]; done) | (simp [q5]; done)) stsub_nil)
          · refine JL_guard rfl rfl q5 ?_
            refine JL_pd rfl (det_move rfl) ?_
            refine JL_guard rfl rfl q5 ?_
            refine JL_pd rfl (det_move rfl) ?_
            refine JL_guard rfl rfl q5 ?_
            refine JL_dt rfl (det_indexAddr rfl rfl (by first | rfl | omega) (by first | assumption | omega | decide) Try.runUnderlying26 Try.sizeOf3) ?_
            refine JL_guard rfl rfl q5 ?_
            refine JL_dt rfl (det_loadE rfl (by first | assumption | omega | decide) Try.isAgg3 rfl rfl) ?_
            refine JL_guard rfl rfl q5 ?_
            refine JL_pd rfl (det_eql rfl rfl) ?_
            refine JL_guard rfl rfl q5 ?_
            refine JL_pd rfl (det_move rfl) ?_
            refine JL_split (d0 := 117) rfl (fun q6 => ?_) (fun q6 => ?_)
            · refine JL_guard rfl rfl q6 ?_
              refine JL_pd rfl (det_move rfl) ?_
              refine JL_guard rfl rfl q6 ?_
              refine JL_pd rfl (det_move rfl) ?_
              refine JL_guard rfl rfl q6 ?_
              refine JL_dt rfl (det_indexAddr rfl rfl (by first | rfl | omega) (by first | assumption | omega | decide) Try.runUnderlying26 Try.sizeOf3) ?_
              refine JL_guard rfl rfl q6 ?_
              refine JL_dt rfl (det_loadE rfl (by first | assumption | omega | decide) Try.isAgg3 rfl rfl) ?_
              refine JL_guard rfl rfl q6 ?_
              refine JL_pd rfl (det_neq rfl rfl) ?_
              refine JL_guard rfl rfl q5 ?_
              refine JL_pd rfl (det_pick_t rfl q6 rfl) ?_
              refine JL_pd rfl (det_pick_f rfl q5 rfl) ?_
              exact hj (by kernel_rfl) (stsub_consB rfl (by clear hj; first | rfl | (have h9 := of_decide_eq_true q6; simp [hz0 h9]; done) | (simp [q5, q6]; done) | (simp at q5; done) | (simp [q6]; done) | (simp [q5]; done)) stsub_nil)
            · refine JL_skip rfl rfl q6 rfl ?_
              refine JL_skip rfl rfl q6 rfl ?_
              refine JL_skip rfl rfl q6 rfl ?_
              refine JL_skip rfl rfl q6 rfl ?_
              refine JL_skip rfl rfl q6 rfl ?_
              refine JL_guard rfl rfl q5 ?_
              refine JL_pd rfl (det_pick_f rfl q6 rfl) ?_
              refine JL_pd rfl (det_pick_f rfl q5 rfl) ?_
              exact hj (by kernel_rfl) (stsub_consB rfl (by clear hj; first | rfl | (have h9 := of_decide_eq_true q6; simp [hz0 h9]; done) | (simp [q5, q6]; done) | (simp at q5; done) | (simp [q6]; done) | (simp [q5]; done)) stsub_nil)
        refine JL_nil ?_
        refine JE_seq ?_
        refine JC_condF rfl rfl ?_
        refine JC_skip ?_
        refine JE_seq ?_
        refine JC_seq ?_
        refine JC_region ?_
        refine JL_pd rfl (det_assign rfl) ?_
        refine JL_nil ?_
        refine JE_seq ?_
        refine JC_block ?_
        -- stop: loop
        refine JC_loopF (γ := Nat) (fun o => o ≤ (sharesV pz P).length) (fun o => [(18, I o)]) (fun _ => []) (fun o => (sharesV pz P).length - o) 0 (Nat.zero_le _) (stsub_consI rfl rfl stsub_nil) ht_nil ?_
        intro o hoo K' hK'
        dsimp only [List.cons_append, List.nil_append]
        refine JC_seq ?_
        refine JC_seq ?_
        refine JC_region ?_
        refine JL_pd rfl (det_move rfl) ?_
        refine JL_pd rfl (det_move rfl) ?_
        refine JL_pd rfl (det_len rfl Try.runUnderlying26) ?_
        refine JL_pd rfl (det_lss rfl rfl) ?_
        refine JL_pd rfl (det_move rfl) ?_
        -- stop: guard 4
        refine JL_join1 2 131 (.bool (decide ((o : Int) < ((sharesV pz P).length : Int)) && surF n.toNat l i)) (fun hj => ?_) ?_
        · refine JL_split (d0 := 129) rfl (fun q7 => ?_) (fun q7 => ?_)
          · refine JL_guard rfl rfl q7 ?_
            refine JL_pd rfl (det_move rfl) ?_
            refine JL_pd rfl (det_pick_t rfl q7 rfl) ?_
            exact hj (by kernel_rfl) (stsub_consB rfl (by clear hj; first | rfl | (simp only [q7, Bool.and_true, Bool.true_and, Bool.false_and, Bool.and_false, Bool.or_true, Bool.true_or, Bool.or_false, Bool.false_or, Bool.not_true, Bool.not_false]; done) | (simp [q7]; done) | (simp at q7; done) | (simp [q7] <;> omega) | (exfalso; simp at q7; omega)) stsub_nil)
          · refine JL_skip rfl rfl q7 rfl ?_
            refine JL_pd rfl (det_pick_f rfl q7 rfl) ?_
            exact hj (by kernel_rfl) (stsub_consB rfl (by clear hj; first | rfl | (simp only [q7, Bool.and_true, Bool.true_and, Bool.false_and, Bool.and_false, Bool.or_true, Bool.true_or, Bool.or_false, Bool.false_or, Bool.not_true, Bool.not_false]; done) | (simp [q7]; done) | (simp at q7; done) | (simp [q7] <;> omega) | (exfalso; simp at q7; omega)) stsub_nil)
        refine JL_nil ?_
        refine JE_seq ?_
        -- stop: cond
        refine JC_cond rfl (fun h3 => ?_) (fun h3 => ?_)
        · rw [Bool.and_eq_true, decide_eq_true_eq] at h3
          have ho2 : o < (sharesV pz P).length := by omega
          have ho3 : o < P.length := by omega
          have hle : (sharesV pz P)[o] ≤ (sharesV pz P)[i] + 1 := by
            rw [hsg o ho2, hsi]
            refine share_le VS hW o i ho3 hi3 ?_
            have := aft_sure V ho hos h3.2 o (by omega)
            subst hP
            rw [ptsL_get, ptsL_get]
            exact this
          refine JC_skip ?_
          refine JE_seq ?_
          refine JC_seq ?_
          refine JC_block ?_
          refine JC_seq ?_
          refine JC_draw [] (by kernel_rfl) ?_
          refine JA_pd (i := 0) rfl (by kernel_rfl) rfl rfl (det_move rfl) ?_
          refine JA_pd (i := 1) rfl (by kernel_rfl) rfl rfl (det_move rfl) ?_
          refine JA_dt (i := 2) rfl (by kernel_rfl) (by kernel_rfl) rfl rfl (det_indexAddr rfl rfl (by first | rfl | omega) (by first | assumption | omega | decide) Try.runUnderlying26 Try.sizeOf3) ?_
          refine JA_dt (i := 3) rfl (by kernel_rfl) (by kernel_rfl) rfl rfl (det_loadE rfl (by first | assumption | omega | decide) Try.isAgg3 rfl rfl) ?_
          refine JA_pd (i := 4) rfl (by kernel_rfl) rfl rfl (det_move rfl) ?_
          refine JA_pd (i := 5) rfl (by kernel_rfl) rfl rfl (det_move rfl) ?_
          refine JA_dt (i := 6) rfl (by kernel_rfl) (by kernel_rfl) rfl rfl (det_indexAddr rfl rfl (by first | rfl | omega) (by first | assumption | omega | decide) Try.runUnderlying26 Try.sizeOf3) ?_
          refine JA_dt (i := 7) rfl (by kernel_rfl) (by kernel_rfl) rfl rfl (det_loadE rfl (by first | assumption | omega | decide) Try.isAgg3 rfl rfl) ?_
          refine JA_pd (i := 8) rfl (by kernel_rfl) rfl rfl (det_add rfl rfl ⟨by omega, by omega⟩) ?_
          refine JA_pd (i := 9) rfl (by kernel_rfl) rfl rfl (det_gtr rfl rfl) ?_
          refine JA_done (by kernel_rfl) ?_
          refine JE_seq ?_
          -- stop: cond
          refine JC_if rfl (fun h4 => ?_) (fun h4 => ?_)
          · exact absurd h4 (by omega)
          refine JC_skip ?_
          refine JE_block ?_
          refine JE_seq ?_
          refine JC_region ?_
          refine JL_pd rfl (det_move rfl) ?_
          refine JL_pd rfl (det_add rfl rfl ⟨by omega, by omega⟩) ?_
          refine JL_pd rfl (det_assign rfl) ?_
          refine JL_nil ?_
          -- stop: end
          refine JE_roundF hK' (o + 1) (by omega) (by omega) (stsub_consI rfl (by omega) stsub_nil) ht_nil
        · refine JC_exit ?_
          refine JE_seq_exit ?_
          refine JE_then_exit ?_
          refine JE_block_here ?_
          refine JE_block ?_
          refine JE_seq ?_
          refine JC_region ?_
          refine JL_pd rfl (det_move rfl) ?_
          refine JL_pd rfl (det_add rfl rfl ⟨by omega, by omega⟩) ?_
          refine JL_pd rfl (det_assign rfl) ?_
          refine JL_nil ?_
          -- stop: end
          refine JE_roundF hK (i + 1) (by omega) (by omega) (stsub_consI rfl (by omega) (stsub_consI rfl (by rw [← hbs]) stsub_nil)) ht_nil
      · obtain rfl : i = (sharesV pz P).length := by omega
        have hpa : paidV pz P (sharesV pz P).length = pz := by rw [hSl]; exact paid_all hW
        rw [hpa]
        refine JC_exit ?_
        refine JE_seq_exit ?_
        refine JE_then_exit ?_
        refine JE_block_here ?_
        refine JE_seq ?_
        refine JC_seq ?_
        refine JC_region ?_
        refine JL_pd rfl (det_move rfl) ?_
        refine JL_pd rfl (det_move rfl) ?_
        refine JL_pd rfl (det_convI rfl Try.runUnderlying49 Try.runUnderlying3 (i64_wrap ⟨by omega, by omega⟩)) ?_
        refine JL_pd rfl (det_eql rfl rfl) ?_
        refine JL_pd rfl (det_move rfl) ?_
        -- stop: guard 4
        refine JL_is (d0 := 148) true rfl (by simp) (fun k9 => ?_)
        refine JL_guard rfl rfl k9 ?_
        refine JL_step rfl rfl rfl (jo_callv rfl rfl Try.call14 rfl (charged_j)) fun _ => ?_
        refine JL_pd rfl (det_pick_t rfl k9 rfl) ?_
        refine JL_pd rfl (det_assign rfl) ?_
        refine JL_nil ?_
        refine JE_seq ?_
        refine JC_ret ?_
        -- stop: out
        refine JE_out (.inl rfl) () (results1 Try.results4 (res_tmp rfl)) rfl (List.Perm.refl _) (fun _ _ => trivial)
end Go.Proofs.Ythpkgabckklojaa.Bl

/- The statements of top: leagues and words that came in. -/
namespace Go.Proofs.Ythpkgabckklojaa.Bl
open Go.ChangeShapes Go.WideShapes Go.ChangeAt Go.RowKit Go.Deep Go.Joins

section
variable {P : Program} {t : TypeId} {α β γ δ ε : Type} {e0 : α → List Value} {e1 : β → List Value} {e2 : γ → List Value} {e3 : δ → List Value} {e4 : ε → List Value}
theorem opens_bool (ht : P.underlying t = some .bool) : OpensTo P t (fun b : Bool => [.bool b]) := fun H enc w base sp hd n cs y hy => by
  obtain ⟨m, rfl, _⟩ := DataW.trod_bool ht hy
  exact ⟨m, rfl⟩
theorem opens_struct5 {f0 f1 f2 f3 f4 : Field} (ht : P.underlying t = some (.struct #[f0, f1, f2, f3, f4])) (h0 : OpensTo P f0.type e0) (h1 : OpensTo P f1.type e1) (h2 : OpensTo P f2.type e2) (h3 : OpensTo P f3.type e3) (h4 : OpensTo P f4.type e4) (o0 : f0.offset = 0) (o1 : f1.offset = P.cellsOf f0.type) (o2 : f2.offset = P.cellsOf f0.type + P.cellsOf f1.type) (o3 : f3.offset = P.cellsOf f0.type + P.cellsOf f1.type + P.cellsOf f2.type) (o4 : f4.offset = P.cellsOf f0.type + P.cellsOf f1.type + P.cellsOf f2.type + P.cellsOf f3.type) (hc : P.cellsOf t = P.cellsOf f0.type + P.cellsOf f1.type + P.cellsOf f2.type + P.cellsOf f3.type + P.cellsOf f4.type) :
    OpensTo P t (fun p : α × β × γ × δ × ε => e0 p.1 ++ (e1 p.2.1 ++ (e2 p.2.2.1 ++ (e3 p.2.2.2.1 ++ e4 p.2.2.2.2)))) := fun H enc w base sp hd n cs y hy => by
  obtain ⟨xs, m, _, _, hl, hlen, hf⟩ := DataW.trod_struct ht hy
  match xs, hlen with
  | [y0, y1, y2, y3, y4], _ =>
  obtain ⟨a, ha⟩ := h0 _ _ _ _ _ _ _ _ _ (show _ = some y0 by simpa using hf 0 f0 rfl)
  obtain ⟨b, hb⟩ := h1 _ _ _ _ _ _ _ _ _ (show _ = some y1 by simpa using hf 1 f1 rfl)
  obtain ⟨c, hc2⟩ := h2 _ _ _ _ _ _ _ _ _ (show _ = some y2 by simpa using hf 2 f2 rfl)
  obtain ⟨d, hd2⟩ := h3 _ _ _ _ _ _ _ _ _ (show _ = some y3 by simpa using hf 3 f3 rfl)
  obtain ⟨e, he2⟩ := h4 _ _ _ _ _ _ _ _ _ (show _ = some y4 by simpa using hf 4 f4 rfl)
  refine ⟨(a, b, c, d, e), ?_⟩
  rw [o0, List.drop_zero] at ha
  rw [o1] at hb
  rw [o2] at hc2
  rw [o3] at hd2
  rw [o4, List.take_of_length_le (by rw [List.length_drop, hl, hc]; omega)] at he2
  show cs = e0 a ++ (e1 b ++ (e2 c ++ (e3 d ++ e4 e)))
  rw [← ha, ← hb, ← hc2, ← hd2, ← he2, ← List.drop_drop (i := P.cellsOf f3.type), ← List.drop_drop (i := P.cellsOf f2.type), ← List.drop_drop (i := P.cellsOf f1.type) (j := P.cellsOf f0.type), List.take_append_drop, List.take_append_drop, List.take_append_drop, List.take_append_drop]
end
theorem opensI : OpensTo Try.prog 3 encI := (opens_int Try.underlying3).to id fun _ => rfl
theorem opensB : OpensTo Try.prog 4 (fun b : Bool => [.bool b]) := opens_bool Try.underlying4
set_option maxRecDepth 100000 in
theorem opensGm : OpensTo Try.prog 82 encG :=
  (opens_struct5 Try.underlying82 opensI opensI opensI opensI opensB rfl (by kernel_rfl) (by kernel_rfl) (by kernel_rfl) (by kernel_rfl) (by kernel_rfl)).to (fun p => ⟨p.1, p.2.1, p.2.2.1, p.2.2.2.1, p.2.2.2.2⟩) fun _ => rfl
theorem opensGs : OpensK Try.prog 45 (fun q : Option Addr × Nat × List Gm => [.slice q.1 q.2.2.length q.2.1]) (fun q w => KSl q.1 q.2.2.length q.2.1 encG q.2.2 w) := opensK_slice Try.underlying45 opensGm (by kernel_rfl)
structure Lx where
  n : Int
  a : Option Addr
  c : Nat
  l : List Gm
set_option maxRecDepth 100000 in
theorem opensLx : OpensK Try.prog 47 (fun x : Lx => [I x.n, .slice x.a x.l.length x.c]) (fun x w => KSl x.a x.l.length x.c encG x.l w) :=
  (opensK_struct2 Try.underlying47 opensI opensGs rfl (by kernel_rfl) (by kernel_rfl)).to (fun p => (⟨p.1, p.2.1, p.2.2.1, p.2.2.2⟩ : Lx)) (fun _ => rfl) fun _ _ h => h
set_option maxRecDepth 100000 in
theorem open_league {H : Type} {enc : TypeId × Value → H} {w : World} {r : Reach} {b0 base : Nat} {sp : Nat → Bool} {held : Bool} {v : Value} {d : DataW H} {p : List MemPlace} (hv : Value.okWide Try.prog w r b0 47 v) (h : DataW.Trod enc Try.prog w base sp held 47 v d p) : ∃ x : Lx, v = .agg #[I x.n, .slice x.a x.l.length x.c] ∧ KSl x.a x.l.length x.c encG x.l w := open_aggK Try.underlying47 opensLx hv h
abbrev Wf16 := { m : Int // (Lit.int .u16 m).wf = true }
def encWf (n : Wf16) : List Value := [.int .u16 n.1]
instance : Rec encWf 1 := ⟨fun _ => rfl, by decide⟩
theorem opensU : OpensTo Try.prog 49 encWf := (opens_wfint Try.underlying49).to id fun _ => rfl
set_option maxRecDepth 100000 in
theorem open_words {H : Type} {enc : TypeId × Value → H} {w : World} {r : Reach} {b0 base : Nat} {sp : Nat → Bool} {held : Bool} {v : Value} {d : DataW H} {p : List MemPlace} (hv : Value.okWide Try.prog w r b0 48 v) (h : DataW.Trod enc Try.prog w base sp held 48 v d p) :
    ∃ (ws : List Int) (a : Option Addr) (c : Nat), v = .slice a ws.length c ∧ wordsOk ws ∧ KSl a ws.length c encU ws w := by
  obtain ⟨a, c, xs, rfl, hk⟩ := open_slicev Try.underlying48 opensU (by kernel_rfl) hv h
  refine ⟨xs.map (·.1), a, c, by simp, ?_, ?_⟩
  · intro x hx
    obtain ⟨y, _, rfl⟩ := List.mem_map.1 hx
    have := y.2
    simpa [Lit.wf, IntKind.min, IntKind.max, IntKind.signed, IntKind.bits] using this
  · rw [List.length_map]; exact KSl_map (e := encWf) (e2 := encU) (fun x : Wf16 => x.1) (fun _ => rfl) hk
end Go.Proofs.Ythpkgabckklojaa.Bl
