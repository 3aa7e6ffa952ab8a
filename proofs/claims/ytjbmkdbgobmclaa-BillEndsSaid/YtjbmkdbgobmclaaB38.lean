/- The statements about bill: BillEnds. -/
import Derived.Test.YtjbmkdbgobmclaaB37
import Derived.Test.YtjbmkdbgobmclaaQC
set_option linter.unusedSimpArgs false
set_option linter.unusedVariables false
namespace Go.Proofs.Ytjbmkdbgobmclaa
open Go.RowKit Go.Shelf

theorem ends_key {l : List Ms} (hl : l.length ≤ 29) (hV : ∀ m ∈ l, VMs m) (hf : fitB (srtL l) = true) {a : Int} (h1 : 1 ≤ a) (h2 : a ≤ lastM l) (k : Nat) (hk : k < 4) (x : Int)
    (hx : ([takenV littleG (srtL l) a a, takenV muchG (srtL l) a a, takenV littleG (srtL l) a a - 1, takenV muchG (srtL l) a a + 1] : List Int)[k]'(by simpa using hk) = x) :
    ∃ W, (W = takenV littleG (srtL l) 1 (a - 1) ∨ W = takenV muchG (srtL l) 1 (a - 1)) ∧ (decide (k < 2) = true → readE (l ++ [⟨a, x, W + x⟩]) = 0) ∧ (decide (k < 2) = false → ∀ t, readE (l ++ [⟨a, x, t⟩]) ≠ 0) := by
  match k, hk with
  | 0, _ =>
    obtain ⟨s, f, e1, e2⟩ := ends_ex hV hf false h1 h2
    rw [if_neg (by decide)] at e1 e2
    have hx : takenV littleG (srtL l) a a = x := hx
    have := fixed_ok hl hV f h1 h2 (c := x) (by rw [e1, hx])
    rw [e2] at this
    exact ⟨_, .inr rfl, fun _ => this, fun e => by cases e⟩
  | 1, _ =>
    obtain ⟨s, f, e1, e2⟩ := ends_ex hV hf true h1 h2
    rw [if_pos rfl] at e1 e2
    have hx : takenV muchG (srtL l) a a = x := hx
    have := fixed_ok hl hV f h1 h2 (c := x) (by rw [e1, hx])
    rw [e2] at this
    exact ⟨_, .inl rfl, fun _ => this, fun e => by cases e⟩
  | 2, _ =>
    have hx : takenV littleG (srtL l) a a - 1 = x := hx
    exact ⟨_, .inl rfl, fun e => (by cases e), fun _ t h => by have := fixed_in hV h1 h2 h; omega⟩
  | 3, _ =>
    have hx : takenV muchG (srtL l) a a + 1 = x := hx
    exact ⟨_, .inl rfl, fun e => (by cases e), fun _ t h => by have := fixed_in hV h1 h2 h; omega⟩
theorem snocM_len (xs : List Ms) (y : Ms) : (xs ++ [y]).length = xs.length + 1 := by rw [List.length_append]; rfl
theorem fixed_j (no c t : Int) (h1 : -1000000 ≤ c ∧ c ≤ 1000000) (h2 : -1000000 ≤ t ∧ t ≤ 1000000) : Cv Try.prog 49 [I no, I c, I t] KTrue (.agg #[I no, I c, I (t + c)]) := by
  refine Cx_of Try.func49 rfl Try.ntmps49 rfl fun w0 M0 => ?_
  refine JC_seq ?_
  refine JC_region ?_
  refine JL_step rfl rfl rfl (jo_alloc0 Try.zeroValue74 rfl) fun b6 => ?_
  refine JL_nil ?_
  refine JE_seq ?_
  refine JC_seq ?_
  refine JC_region ?_
  refine JL_pd rfl (det_move rfl) ?_
  refine JL_pd rfl (det_move rfl) ?_
  refine JL_pd rfl (det_move rfl) ?_
  refine JL_pd rfl (det_move rfl) ?_
  refine JL_pd rfl (det_add rfl rfl ⟨by omega, by omega⟩) ?_
  refine JL_pd rfl (det_build rfl (bld_74_0_1_2 _ _ _)) ?_
  refine JL_step0 rfl rfl (jo_store rfl rfl rfl (by first | (simp only [splice_norm]; done) | (simp only [splice_norm]; rfl) | rfl) Try.sizeOf74 rfl rfl) fun _ => ?_
  refine JL_nil ?_
  refine JE_seq ?_
  refine JC_ret ?_
  -- stop: out
  refine JE_out (.inl rfl) () (results1 Try.results49 (res_box rfl Try.isAgg74 Try.sizeOf74 rfl)) rfl (List.Perm.refl _) (fun _ _ => trivial)
set_option maxRecDepth 100000 in
set_option maxHeartbeats 4000000 in
theorem BillEnds_j (ad : Option Addr) (c : Nat) (ls : List Ms) (wn : Nat) (hwn : wn ≤ 255) : Cv Try.prog 12 [.slice ad ls.length c, .int .u8 wn] (KSl ad ls.length c encM ls) (.bool true) := by
  refine Cx_of Try.func12 rfl Try.ntmps12 rfl fun w0 M0 => ?_
  refine JC_seq ?_
  refine JC_region ?_
  refine JL_pd rfl (det_assign rfl) ?_
  refine JL_nil ?_
  refine JE_seq ?_
  refine JC_seq ?_
  refine JC_seq ?_
  refine JC_region ?_
  refine JL_pd rfl (det_move rfl) ?_
  refine JL_pd rfl (det_len rfl Try.runUnderlying31) ?_
  refine JL_pd rfl (det_gtr rfl rfl) ?_
  refine JL_pd rfl (det_move rfl) ?_
  -- stop: guard 3
  by_cases h1 : 29 < ls.length
  · refine JL_is (d0 := 21) true rfl (by exact decide_eq_true (by omega)) (fun g1 => ?_)
    refine JL_skip rfl rfl g1 rfl ?_
    refine JL_skip rfl rfl g1 rfl ?_
    refine JL_skip rfl rfl g1 rfl ?_
    refine JL_pd rfl (det_pick_t rfl g1 rfl) ?_
    refine JL_pd rfl (det_move rfl) ?_
    refine JL_skip rfl rfl rfl rfl ?_
    refine JL_skip rfl rfl rfl rfl ?_
    refine JL_skip rfl rfl rfl rfl ?_
    refine JL_pd rfl (det_pick_t rfl rfl rfl) ?_
    refine JL_nil ?_
    refine JE_seq ?_
    refine JC_condT rfl rfl ?_
    refine JC_seq ?_
    refine JC_region ?_
    refine JL_step rfl rfl rfl (jo_callv rfl rfl Try.call16 rfl (awake_j)) fun _ => ?_
    refine JL_pd rfl (det_assign rfl) ?_
    refine JL_nil ?_
    refine JE_seq ?_
    refine JC_ret ?_
    refine JE_seq_ret ?_
    -- stop: out
    refine JE_out (.inl rfl) () (results1 Try.results12 (res_tmp rfl)) rfl (List.Perm.refl _) (fun _ _ => trivial)
  · have hfj := lostFault_j ad c ls (by omega)
    refine JL_is (d0 := 21) false rfl (by exact decide_eq_false (by omega)) (fun g1 => ?_)
    refine JL_guard rfl rfl g1 ?_
    refine JL_pd rfl (det_move rfl) ?_
    refine JL_guard rfl rfl g1 ?_
    refine JL_step rfl rfl rfl (jo_callv rfl rfl Try.call24 rfl (hfj)) fun _ => ?_
    refine JL_guard rfl rfl g1 ?_
    refine JL_pd rfl (det_neq rfl rfl) ?_
    refine JL_pd rfl (det_pick_f rfl g1 rfl) ?_
    refine JL_pd rfl (det_move rfl) ?_
    -- stop: guard 8
    by_cases hE : readE ls = 0
    · refine JL_is (d0 := 26) false rfl (by rw [decide_eq_true hE]; rfl) (fun g2 => ?_)
      refine JL_guard rfl rfl g2 ?_
      refine JL_pd rfl (det_move rfl) ?_
      refine JL_guard rfl rfl g2 ?_
      refine JL_pd rfl (det_len rfl Try.runUnderlying31) ?_
      refine JL_guard rfl rfl g2 ?_
      refine JL_pd rfl (det_eql rfl rfl) ?_
      refine JL_pd rfl (det_pick_f rfl g2 rfl) ?_
      refine JL_nil ?_
      refine JE_seq ?_
      -- stop: cond
      refine JC_if rfl (fun h2 => ?_) (fun h2 => ?_)
      · refine JC_seq ?_
        refine JC_region ?_
        refine JL_step rfl rfl rfl (jo_callv rfl rfl Try.call16 rfl (awake_j)) fun _ => ?_
        refine JL_pd rfl (det_assign rfl) ?_
        refine JL_nil ?_
        refine JE_seq ?_
        refine JC_ret ?_
        refine JE_seq_ret ?_
        -- stop: out
        refine JE_out (.inl rfl) () (results1 Try.results12 (res_tmp rfl)) rfl (List.Perm.refl _) (fun _ _ => trivial)
      · obtain ⟨hmf, _⟩ := mfE_read hE
        obtain ⟨_, hV⟩ := mfE_of hmf
        have hfit := (read_of hE).2.2
        have h60 := lastM_60 hV
        have hl1 : 1 ≤ lastM ls := by
          have q1 := (hV _ (List.getElem_mem (show 0 < ls.length by omega))).n0
          have q2 := lastM_le (List.getElem_mem (show 0 < ls.length by omega))
          omega
        have hLj := Last_j ad c ls (by omega)
        obtain ⟨n, hn⟩ : ∃ n : Nat, lastM ls = n := ⟨(lastM ls).toNat, by omega⟩
        obtain ⟨a, ha⟩ : ∃ a : Int, 1 + (wn : Int).tmod (n : Int) = a := ⟨_, rfl⟩
        have ha1 : 1 ≤ a ∧ a ≤ n := by
          rw [← ha, Int.tmod_eq_emod_of_nonneg (by omega)]
          have := Int.emod_nonneg (wn : Int) (show (n : Int) ≠ 0 by omega)
          have := Int.emod_lt_of_pos (wn : Int) (show 0 < (n : Int) by omega)
          omega
        have hfr : 0 ≤ (wn : Int).tmod (n : Int) ∧ (wn : Int).tmod (n : Int) ≤ 60 := by omega
        have hm1 := lMsgs_j ad c ls (by omega)
        have hal : a ≤ lastM ls := by omega
        have ht1 := fun a2 c2 => Taken_jo a2 c2 ls (by omega) a a (takenE_0 hE hV ha1.1 (Int.le_refl _) hal)
        have ht2 := fun (h : 1 < a) a2 c2 => Taken_jo a2 c2 ls (by omega) 1 (a - 1) (takenE_0 hE hV (Int.le_refl _) (by omega) (by omega))
        have hob := one_bd hV hfit ha1.1 hal
        have hab := taken_bd hV hfit 1 (a - 1)
        have hkey := fun k hk x hx => ends_key (by omega) hV hfit ha1.1 hal k hk x hx
        have hz : a = 1 → takenV littleG (srtL ls) 1 (a - 1) = 0 ∧ takenV muchG (srtL ls) 1 (a - 1) = 0 := fun e => by
          subst e
          exact ⟨ahead_0 hfit false, ahead_0 hfit true⟩
        rw [hn] at hLj
        generalize takenV littleG (srtL ls) a a = lo at ht1 hob hkey
        generalize takenV muchG (srtL ls) a a = vh at ht1 hob hkey
        generalize takenV littleG (srtL ls) 1 (a - 1) = al at ht2 hab hkey hz
        generalize takenV muchG (srtL ls) 1 (a - 1) = ah at ht2 hab hkey hz
        refine JC_skip ?_
        refine JE_seq ?_
        refine JC_seq ?_
        refine JC_region ?_
        refine JL_pd rfl (det_move rfl) ?_
        refine JL_step rfl rfl rfl (jo_callv rfl rfl Try.call28 rfl (hLj)) fun _ => ?_
        refine JL_pd rfl (det_assign rfl) ?_
        refine JL_nil ?_
        refine JE_seq ?_
        refine JC_seq ?_
        refine JC_region ?_
        refine JL_pd rfl (det_move rfl) ?_
        refine JL_pd rfl (det_convI rfl Try.runUnderlying5 Try.runUnderlying3 (i64_wrap ⟨by omega, by omega⟩)) ?_
        refine JL_pd rfl (det_move rfl) ?_
        refine JL_pd rfl (det_rem rfl rfl (by omega)) ?_
        refine JL_pd rfl (det_addR a rfl rfl (by rw [ha]; exact i64_wrap ⟨by omega, by omega⟩)) ?_
        refine JL_pd rfl (det_assign rfl) ?_
        refine JL_nil ?_
        refine JE_seq ?_
        refine JC_seq ?_
        refine JC_region ?_
        refine JL_pd rfl (det_move rfl) ?_
        refine JL_step rfl rfl rfl (jo_call rfl rfl Try.call22 rfl (hm1)) fun x41 => ?_
        refine JL_pd rfl (det_move rfl) ?_
        refine JL_pd rfl (det_move rfl) ?_
        refine JL_step rfl rfl rfl (jo_callv rfl rfl Try.call23 rfl (ht1 _ _)) fun _ => ?_
        refine JL_pd rfl (det_move rfl) ?_
        refine JL_pd rfl (det_extract rfl rfl) ?_
        refine JL_pd rfl (det_extract rfl rfl) ?_
        refine JL_step rfl rfl rfl (jo_alloc0 Try.zeroValue36 rfl) fun b7 => ?_
        refine JL_step0 rfl rfl (jo_store rfl rfl rfl (by first | (simp only [splice_norm]; done) | (simp only [splice_norm]; rfl) | rfl) Try.sizeOf36 rfl rfl) fun _ => ?_
        refine JL_pd rfl (det_assign rfl) ?_
        refine JL_nil ?_
        refine JE_seq ?_
        refine JC_seq ?_
        refine JC_seq ?_
        refine JC_region ?_
        refine JL_pd rfl (det_move rfl) ?_
        refine JL_pd rfl (det_neq rfl rfl) ?_
        refine JL_pd rfl (det_move rfl) ?_
        -- stop: guard 2
        skip
        refine JL_is (d0 := 49) false rfl (by first | rfl | exact decide_eq_false (by omega)) (fun g1 => ?_)
        refine JL_guard rfl rfl g1 ?_
        refine JL_pd rfl (det_fieldAddr rfl fo_36_0) ?_
        refine JL_guard rfl rfl g1 ?_
        refine JL_dt rfl (det_loadK rfl Try.isAgg3 rfl) ?_
        refine JL_guard rfl rfl g1 ?_
        refine JL_pd rfl (det_lss rfl rfl) ?_
        refine JL_pd rfl (det_pick_f rfl g1 rfl) ?_
        refine JL_pd rfl (det_move rfl) ?_
        refine JL_is (d0 := 54) false rfl (by first | rfl | exact decide_eq_false (by omega)) (fun g2 => ?_)
        refine JL_guard rfl rfl g2 ?_
        refine JL_pd rfl (det_fieldAddr rfl fo_36_0) ?_
        refine JL_guard rfl rfl g2 ?_
        refine JL_dt rfl (det_loadK rfl Try.isAgg3 rfl) ?_
        refine JL_guard rfl rfl g2 ?_
        refine JL_pd rfl (det_fieldAddr rfl fo_36_1) ?_
        refine JL_guard rfl rfl g2 ?_
        refine JL_dt rfl (det_loadK rfl Try.isAgg3 rfl) ?_
        refine JL_guard rfl rfl g2 ?_
        refine JL_pd rfl (det_gtr rfl rfl) ?_
        refine JL_pd rfl (det_pick_f rfl g2 rfl) ?_
        refine JL_pd rfl (det_move rfl) ?_
        refine JL_is (d0 := 61) false rfl (by first | rfl | exact decide_eq_false (by omega)) (fun g3 => ?_)
        refine JL_guard rfl rfl g3 ?_
        refine JL_pd rfl (det_fieldAddr rfl fo_36_1) ?_
        refine JL_guard rfl rfl g3 ?_
        refine JL_dt rfl (det_loadK rfl Try.isAgg3 rfl) ?_
        refine JL_guard rfl rfl g3 ?_
        refine JL_pd rfl (det_gtr rfl rfl) ?_
        refine JL_pd rfl (det_pick_f rfl g3 rfl) ?_
        refine JL_nil ?_
        refine JE_seq ?_
        -- stop: cond
        refine JC_if rfl (fun h3 => ?_) (fun h3 => ?_)
        · exact absurd h3 (by omega)
        refine JC_skip ?_
        refine JE_seq ?_
        refine JC_seq ?_
        refine JC_region ?_
        refine JL_pd rfl (det_build rfl (bld_36)) ?_
        refine JL_step rfl rfl rfl (jo_alloc0 Try.zeroValue36 rfl) fun b9 => ?_
        refine JL_step0 rfl rfl (jo_store rfl rfl rfl (by first | (simp only [splice_norm]; done) | (simp only [splice_norm]; rfl) | rfl) Try.sizeOf36 rfl rfl) fun _ => ?_
        refine JL_nil ?_
        refine JE_seq ?_
        refine JC_seq ?_
        refine JC_seq ?_
        refine JC_region ?_
        refine JL_pd rfl (det_move rfl) ?_
        refine JL_pd rfl (det_gtr rfl rfl) ?_
        refine JL_nil ?_
        refine JE_seq ?_
        -- stop: cond
        refine JC_keep b7 noFp ?_
        refine JC_cutF (γ := Unit) (fun _ => True) (fun _ => []) (fun _ => [bx b9 [I al, I ah]]) [] (fun K hK => ?_) (fun _ _ => ?_)
        · skip
          -- stop: cond
          refine JC_if rfl (fun h4 => ?_) (fun h4 => ?_)
          · have ht3 := ht2 h4
            refine JC_seq ?_
            refine JC_region ?_
            refine JL_pd rfl (det_move rfl) ?_
            refine JL_step rfl rfl rfl (jo_call rfl rfl Try.call22 rfl (hm1)) fun x71 => ?_
            refine JL_pd rfl (det_move rfl) ?_
            refine JL_pd rfl (det_sub rfl rfl ⟨by omega, by omega⟩) ?_
            refine JL_step rfl rfl rfl (jo_callv rfl rfl Try.call23 rfl (ht3 _ _)) fun _ => ?_
            refine JL_pd rfl (det_move rfl) ?_
            refine JL_pd rfl (det_extract rfl rfl) ?_
            refine JL_pd rfl (det_extract rfl rfl) ?_
            refine JL_step rfl rfl rfl (jo_alloc0 Try.zeroValue36 rfl) fun b10 => ?_
            refine JL_step0 rfl rfl (jo_store rfl rfl rfl (by first | (simp only [splice_norm]; done) | (simp only [splice_norm]; rfl) | rfl) Try.sizeOf36 rfl rfl) fun _ => ?_
            refine JL_pd rfl (det_assign rfl) ?_
            refine JL_nil ?_
            refine JE_seq ?_
            refine JC_seq ?_
            refine JC_seq ?_
            refine JC_region ?_
            refine JL_pd rfl (det_move rfl) ?_
            refine JL_pd rfl (det_neq rfl rfl) ?_
            refine JL_nil ?_
            refine JE_seq ?_
            -- stop: cond
            refine JC_ifn rfl (fun h5 => ?_) (fun h5 => ?_)
            · exact absurd rfl h5
            refine JC_skip ?_
            refine JE_seq ?_
            refine JC_region ?_
            refine JL_dt rfl (det_loadKA rfl Try.isAgg36 Try.sizeOf36 rfl rfl) ?_
            refine JL_step0 rfl rfl (jo_store rfl rfl rfl (by first | (simp only [splice_norm]; done) | (simp only [splice_norm]; rfl) | rfl) Try.sizeOf36 rfl rfl) fun _ => ?_
            refine JL_nil ?_
            -- stop: end
            exact JE_cutF hK () trivial stsub_nil (ht_bx rfl ht_nil)
          · obtain ⟨z1, z2⟩ := hz (by omega)
            refine JC_skip ?_
            -- stop: end
            exact JE_cutF hK () trivial stsub_nil (ht_bx (by rw [z1, z2]) ht_nil)
        · dsimp only [List.cons_append, List.nil_append]
          refine JC_seq ?_
          refine JC_seq ?_
          refine JC_region ?_
          refine JL_pd rfl (det_assign rfl) ?_
          refine JL_nil ?_
          refine JE_seq ?_
          refine JC_block ?_
          -- stop: loop
          refine JC_keep b9 noFp ?_
          refine JC_loopF (γ := Nat) (fun k => k ≤ 4) (fun k => [(12, I k)]) (fun _ => []) (fun k => 4 - k) 0 (by omega) (stsub_consI rfl rfl stsub_nil) ht_nil ?_
          intro k hk K hK
          dsimp only [List.cons_append, List.nil_append]
          refine JC_seq ?_
          refine JC_seq ?_
          refine JC_region ?_
          refine JL_pd rfl (det_move rfl) ?_
          refine JL_pd rfl (det_lss rfl rfl) ?_
          refine JL_nil ?_
          refine JE_seq ?_
          -- stop: cond
          refine JC_if rfl (fun h5 => ?_) (fun h5 => ?_)
          · have hk4 : k < 4 := by omega
            obtain ⟨x, hx⟩ : ∃ x : Int, ([lo, vh, lo - 1, vh + 1] : List Int)[k]'(by simpa using hk4) = x := ⟨_, rfl⟩
            obtain ⟨W, hW, hok, hno⟩ := hkey k hk4 x hx
            refine JC_skip ?_
            refine JE_seq ?_
            refine JC_seq ?_
            refine JC_block ?_
            refine JC_seq ?_
            refine JC_region ?_
            refine JL_pd rfl (det_fieldAddr rfl fo_36_0) ?_
            refine JL_dt rfl (det_loadK rfl Try.isAgg3 rfl) ?_
            refine JL_pd rfl (det_fieldAddr rfl fo_36_1) ?_
            refine JL_dt rfl (det_loadK rfl Try.isAgg3 rfl) ?_
            refine JL_pd rfl (det_fieldAddr rfl fo_36_0) ?_
            refine JL_dt rfl (det_loadK rfl Try.isAgg3 rfl) ?_
            refine JL_pd rfl (det_sub rfl rfl ⟨by omega, by omega⟩) ?_
            refine JL_pd rfl (det_fieldAddr rfl fo_36_1) ?_
            refine JL_dt rfl (det_loadK rfl Try.isAgg3 rfl) ?_
            refine JL_pd rfl (det_add rfl rfl ⟨by omega, by omega⟩) ?_
            refine JL_step rfl rfl rfl (jo_buildSlice rfl (bsl_22_4_0_1_2_3 _ _ _ _)) fun b94 => ?_
            refine JL_pd rfl (det_move rfl) ?_
            refine JL_lit (enc := encI) b94 4 [lo, vh, lo - 1, vh + 1] noFp rfl rfl (by decide) ?_
            refine JL_dt rfl (det_indexAddr (i := k) rfl rfl rfl hk4 Try.runUnderlying22 Try.sizeOf3) ?_
            refine JL_dt rfl (det_loadE (n := 4) (i := k) (xs := [lo, vh, lo - 1, vh + 1]) (v := I x) rfl hk4 Try.isAgg3 rfl (by rw [hx]; rfl)) ?_
            refine JL_pd rfl (det_assign rfl) ?_
            refine JL_nil ?_
            refine JE_seq ?_
            refine JC_seq ?_
            refine JC_seq ?_
            refine JC_region ?_
            refine JL_pd rfl (det_move rfl) ?_
            refine JL_step rfl rfl rfl (jo_callv rfl rfl Try.call27 rfl (In_j _ _ _)) fun _ => ?_
            refine JL_pd rfl (det_not rfl) ?_
            refine JL_nil ?_
            refine JE_seq ?_
            -- stop: cond
            refine JC_cond rfl (fun h6 => ?_) (fun h6 => ?_)
            · refine JC_exit ?_
              refine JE_seq_exit ?_
              refine JE_block_here ?_
              refine JE_seq ?_
              refine JC_region ?_
              refine JL_pd rfl (det_move rfl) ?_
              refine JL_pd rfl (det_add rfl rfl ⟨by omega, by omega⟩) ?_
              refine JL_pd rfl (det_assign rfl) ?_
              refine JL_nil ?_
              -- stop: end
              refine JE_roundF hK (k + 1) (by omega) (by omega) (stsub_consI rfl (by omega) stsub_nil) ht_nil
            · simp only [Bool.not_eq_false'] at h6
              have hxi := inI_iff.1 h6
              refine JC_skip ?_
              refine JE_seq ?_
              refine JC_seq ?_
              refine JC_region ?_
              refine JL_pd rfl (det_assign rfl) ?_
              refine JL_nil ?_
              refine JE_seq ?_
              refine JC_seq ?_
              refine JC_seq ?_
              refine JC_region ?_
              refine JL_pd rfl (det_fieldAddr rfl fo_36_0) ?_
              refine JL_dt rfl (det_loadK rfl Try.isAgg3 rfl) ?_
              refine JL_pd rfl (det_assign rfl) ?_
              refine JL_nil ?_
              refine JE_seq ?_
              refine JC_block ?_
              -- stop: loop
              generalize hexp : decide (k < 2) = ex at hok hno
              refine JC_loopF (γ := Int × Bool) (fun q => al ≤ q.1 ∧ q.1 ≤ ah + 1 ∧ (ex = true → q.2 = false → q.1 ≤ W) ∧ (ex = false → q.2 = false)) (fun q => [(15, I q.1), (14, .bool q.2)]) (fun _ => []) (fun q => (ah + 1 - q.1).toNat) (al, false) ⟨by simp only; omega, by simp only; omega, fun _ _ => by simp only; omega, fun _ => rfl⟩ (stsub_consI rfl rfl (stsub_consB rfl rfl stsub_nil)) ht_nil ?_
              rintro ⟨t, sm⟩ ⟨i1, i2, i3, i4⟩ K1 hK1
              dsimp only [List.cons_append, List.nil_append] at i1 i2 i3 i4 ⊢
              refine JC_seq ?_
              refine JC_seq ?_
              refine JC_region ?_
              refine JL_pd rfl (det_move rfl) ?_
              refine JL_pd rfl (det_fieldAddr rfl fo_36_1) ?_
              refine JL_dt rfl (det_loadK rfl Try.isAgg3 rfl) ?_
              refine JL_pd rfl (det_leq rfl rfl) ?_
              refine JL_pd rfl (det_move rfl) ?_
              -- stop: guard 4
              by_cases htl : t ≤ ah
              · refine JL_is (d0 := 107) true rfl (by exact decide_eq_true htl) (fun g3 => ?_)
                refine JL_guard rfl rfl g3 ?_
                refine JL_pd rfl (det_move rfl) ?_
                refine JL_guard rfl rfl g3 ?_
                refine JL_pd rfl (det_not rfl) ?_
                refine JL_pd rfl (det_pick_t rfl g3 rfl) ?_
                refine JL_nil ?_
                refine JE_seq ?_
                -- stop: cond
                refine JC_cond rfl (fun h7 => ?_) (fun h7 => ?_)
                · simp only [Bool.not_eq_true'] at h7
                  subst h7
                  have hsl : (ls ++ [(⟨a, x, t + x⟩ : Ms)]).length = ls.length + 1 := snocM_len ls _
                  refine JC_skip ?_
                  refine JE_seq ?_
                  refine JC_seq ?_
                  refine JC_block ?_
                  refine JC_seq ?_
                  refine JC_region ?_
                  refine JL_step rfl rfl rfl (jo_buildOwn (z := 3) rfl (bsl_31_0) rfl (by decide)) fun b114 => ?_
                  refine JL_pd rfl (det_move rfl) ?_
                  refine JL_step rfl rfl rfl (jo_appendK (e := encM) el_31 rfl rfl encM_one (by omega)) fun b116 => ?_
                  refine JL_pd rfl (det_move rfl) ?_
                  refine JL_pd rfl (det_move rfl) ?_
                  refine JL_pd rfl (det_move rfl) ?_
                  refine JL_step rfl rfl rfl (jo_callv rfl rfl Try.call49 rfl (fixed_j a x t (by omega) (by omega))) fun _ => ?_
                  refine JL_step rfl rfl rfl (jo_buildSlice rfl (bsl_31_1_0 _ _ _)) fun b121 => ?_
                  refine JL_step rfl rfl rfl (jo_append el_31 rfl rfl rfl rfl (by omega)) fun b122 => ?_
                  -- stop: op  9 t123 := (call (Call (value f22) (t122) (31)))   <8 8>   213
                  refine JL_slice (enc := encM) (v := .slice (some ⟨b122.1, 0, none⟩) (0 + ls.length + 1) b122.2) (ls ++ [(⟨a, x, t + x⟩ : Ms)]) noFp (by rw [List.flatMap_append]; rfl) (by rw [hsl]; omega) ?_
                  rintro qa qc hq
                  obtain ⟨rfl, rfl⟩ : some ⟨b122.1, 0, none⟩ = qa ∧ b122.2 = qc := by simpa using hq
                  have hm2 := lMsgs_j (some ⟨b122.1, 0, none⟩) b122.2 (ls ++ [(⟨a, x, t + x⟩ : Ms)]) (by omega)
                  rw [show 0 + ls.length + 1 = (ls ++ [(⟨a, x, t + x⟩ : Ms)]).length from by omega]
                  refine JL_step rfl rfl rfl (jo_call rfl rfl Try.call22 rfl (hm2)) fun ym => ?_
                  -- stop: op 10 t124 := (call (Call (value f48) (t123) (33)))   <9 9>   213
                  by_cases hr : readE (ls ++ [(⟨a, x, t + x⟩ : Ms)]) = 0
                  · refine JL_step rfl rfl rfl (jo_call rfl rfl Try.call48 rfl (Shows_jo ym.1 ym.2 (ls ++ [(⟨a, x, t + x⟩ : Ms)]) (by omega) hr)) fun ys => ?_
                    refine JL_pd rfl (det_move rfl) ?_
                    refine JL_pd rfl (det_extract rfl rfl) ?_
                    refine JL_pd rfl (det_extract rfl rfl) ?_
                    refine JL_pd rfl (det_assign rfl) ?_
                    refine JL_pd rfl (det_assign rfl) ?_
                    refine JL_nil ?_
                    refine JE_seq ?_
                    refine JC_seq ?_
                    refine JC_region ?_
                    refine JL_pd rfl (det_move rfl) ?_
                    refine JL_pd rfl (det_eql rfl rfl) ?_
                    refine JL_pd rfl (det_assign rfl) ?_
                    refine JL_nil ?_
                    refine JE_seq ?_
                    refine JC_seq ?_
                    refine JC_region ?_
                    refine JL_pd rfl (det_move rfl) ?_
                    refine JL_pd rfl (det_not rfl) ?_
                    refine JL_pd rfl (det_move rfl) ?_
                    -- stop: guard 2
                    refine JL_is (d0 := 131) false rfl (by rfl) (fun g4 => ?_)
                    refine JL_skip rfl rfl g4 rfl ?_
                    refine JL_skip rfl rfl g4 rfl ?_
                    refine JL_skip rfl rfl g4 rfl ?_
                    refine JL_skip rfl rfl g4 rfl ?_
                    refine JL_skip rfl rfl g4 rfl ?_
                    refine JL_pd rfl (det_pick_f rfl g4 rfl) ?_
                    refine JL_nil ?_
                    refine JE_seq ?_
                    refine JC_condF rfl rfl ?_
                    refine JC_skip ?_
                    refine JE_block ?_
                    refine JE_seq ?_
                    refine JC_region ?_
                    refine JL_pd rfl (det_move rfl) ?_
                    refine JL_pd rfl (det_add rfl rfl ⟨by omega, by omega⟩) ?_
                    refine JL_pd rfl (det_assign rfl) ?_
                    refine JL_nil ?_
                    -- stop: end
                    refine JE_roundF hK1 (t + 1, true) ⟨by simp only; omega, by simp only; omega, fun _ e => (by cases e), fun e => absurd hr (hno e _)⟩ (by simp only; omega) (stsub_consI rfl (by simp only) (stsub_consB rfl rfl stsub_nil)) ht_nil
                  · skip
                    refine JL_step rfl rfl rfl (jo_callv rfl rfl Try.call48 rfl (Shows_je ym.1 ym.2 (ls ++ [(⟨a, x, t + x⟩ : Ms)]) (by omega) hr)) fun _ => ?_
                    refine JL_pd rfl (det_move rfl) ?_
                    refine JL_pd rfl (det_extract rfl rfl) ?_
                    refine JL_pd rfl (det_extract rfl rfl) ?_
                    refine JL_pd rfl (det_assign rfl) ?_
                    refine JL_pd rfl (det_assign rfl) ?_
                    refine JL_nil ?_
                    refine JE_seq ?_
                    refine JC_seq ?_
                    refine JC_region ?_
                    refine JL_pd rfl (det_move rfl) ?_
                    refine JL_pd rfl (det_eql rfl rfl) ?_
                    refine JL_pd rfl (det_assign rfl) ?_
                    refine JL_nil ?_
                    refine JE_seq ?_
                    refine JC_seq ?_
                    refine JC_region ?_
                    refine JL_pd rfl (det_move rfl) ?_
                    refine JL_pd rfl (det_not rfl) ?_
                    refine JL_pd rfl (det_move rfl) ?_
                    -- stop: guard 2
                    have hne : ex = true → t ≠ W := fun e e2 => hr (by rw [e2]; exact hok e)
                    generalize readE (ls ++ [(⟨a, x, t + x⟩ : Ms)]) = E at hr
                    refine JL_is (d0 := 131) true rfl (by rw [decide_eq_false hr]; rfl) (fun g4 => ?_)
                    refine JL_guard rfl rfl g4 ?_
                    refine JL_pd rfl (det_move rfl) ?_
                    refine JL_guard rfl rfl g4 ?_
                    refine JL_pd rfl (det_fieldAddr rfl fo_36_0) ?_
                    refine JL_guard rfl rfl g4 ?_
                    refine JL_dt rfl (det_loadK rfl Try.isAgg3 rfl) ?_
                    refine JL_guard rfl rfl g4 ?_
                    refine JL_pd rfl (det_add rfl rfl ⟨by omega, by omega⟩) ?_
                    refine JL_guard rfl rfl g4 ?_
                    refine JL_pd rfl (det_eql rfl rfl) ?_
                    refine JL_pd rfl (det_pick_t rfl g4 rfl) ?_
                    refine JL_nil ?_
                    refine JE_seq ?_
                    -- stop: cond
                    refine JC_if rfl (fun h8 => ?_) (fun h8 => ?_)
                    · refine JC_region ?_
                      refine JL_pd rfl (det_move rfl) ?_
                      refine JL_pd rfl (det_fieldAddr rfl fo_36_1) ?_
                      refine JL_dt rfl (det_loadK rfl Try.isAgg3 rfl) ?_
                      refine JL_pd rfl (det_sub rfl rfl ⟨by omega, by omega⟩) ?_
                      refine JL_pd rfl (det_max rfl rfl) ?_
                      refine JL_pd rfl (det_assign rfl) ?_
                      refine JL_nil ?_
                      refine JE_block ?_
                      refine JE_seq ?_
                      refine JC_region ?_
                      refine JL_pd rfl (det_move rfl) ?_
                      refine JL_pd rfl (det_add rfl rfl ⟨by omega, by omega⟩) ?_
                      refine JL_pd rfl (det_assign rfl) ?_
                      refine JL_nil ?_
                      -- stop: end
                      refine JE_roundF hK1 (max t (ah - 40) + 1, false) ⟨by simp only; omega, by simp only; omega, fun e _ => (by have q1 := hne e; have q2 := i3 e rfl; simp only; omega), fun _ => rfl⟩ (by simp only; omega) (stsub_consI rfl (by simp only) (stsub_consB rfl (decide_eq_false hr) stsub_nil)) ht_nil
                    · refine JC_skip ?_
                      refine JE_block ?_
                      refine JE_seq ?_
                      refine JC_region ?_
                      refine JL_pd rfl (det_move rfl) ?_
                      refine JL_pd rfl (det_add rfl rfl ⟨by omega, by omega⟩) ?_
                      refine JL_pd rfl (det_assign rfl) ?_
                      refine JL_nil ?_
                      -- stop: end
                      refine JE_roundF hK1 (t + 1, false) ⟨by simp only; omega, by simp only; omega, fun e _ => (by have q1 := hne e; have q2 := i3 e rfl; simp only; omega), fun _ => rfl⟩ (by simp only; omega) (stsub_consI rfl (by simp only) (stsub_consB rfl (decide_eq_false hr) stsub_nil)) ht_nil
                · simp only [Bool.not_eq_false'] at h7
                  subst h7
                  have he : ex = true := by cases ex with
                    | true => rfl
                    | false => have := i4 rfl; cases this
                  refine JC_exit ?_
                  refine JE_seq_exit ?_
                  refine JE_then_exit ?_
                  refine JE_block_here ?_
                  refine JE_seq ?_
                  refine JC_seq ?_
                  refine JC_region ?_
                  refine JL_pd rfl (det_move rfl) ?_
                  refine JL_pd rfl (det_move rfl) ?_
                  refine JL_pd rfl (det_lss rfl rfl) ?_
                  refine JL_pd rfl (det_neqB rfl rfl Try.underlying4) ?_
                  refine JL_nil ?_
                  refine JE_seq ?_
                  -- stop: cond
                  refine JC_cond rfl (fun h8 => ?_) (fun h8 => ?_)
                  · exact absurd h8 (by rw [show decide ((k : Int) < 2) = true from by rw [← he, ← hexp]; exact decide_eq_decide.2 (by omega)]; decide)
                  refine JC_skip ?_
                  refine JE_block ?_
                  refine JE_seq ?_
                  refine JC_region ?_
                  refine JL_pd rfl (det_move rfl) ?_
                  refine JL_pd rfl (det_add rfl rfl ⟨by omega, by omega⟩) ?_
                  refine JL_pd rfl (det_assign rfl) ?_
                  refine JL_nil ?_
                  -- stop: end
                  refine JE_roundF hK (k + 1) (by omega) (by omega) (stsub_consI rfl (by omega) stsub_nil) ht_nil
              · have hse : sm = ex := by
                  cases ex with
                  | true =>
                    cases sm with
                    | true => rfl
                    | false => have := i3 rfl rfl; omega
                  | false => exact i4 rfl
                refine JL_is (d0 := 107) false rfl (by exact decide_eq_false htl) (fun g3 => ?_)
                refine JL_skip rfl rfl g3 rfl ?_
                refine JL_skip rfl rfl g3 rfl ?_
                refine JL_pd rfl (det_pick_f rfl g3 rfl) ?_
                refine JL_nil ?_
                refine JE_seq ?_
                refine JC_condF rfl rfl ?_
                refine JC_exit ?_
                refine JE_seq_exit ?_
                refine JE_then_exit ?_
                refine JE_block_here ?_
                refine JE_seq ?_
                refine JC_seq ?_
                refine JC_region ?_
                refine JL_pd rfl (det_move rfl) ?_
                refine JL_pd rfl (det_move rfl) ?_
                refine JL_pd rfl (det_lss rfl rfl) ?_
                refine JL_pd rfl (det_neqB rfl rfl Try.underlying4) ?_
                refine JL_nil ?_
                refine JE_seq ?_
                -- stop: cond
                refine JC_cond rfl (fun h8 => ?_) (fun h8 => ?_)
                · exact absurd h8 (by rw [show decide ((k : Int) < 2) = sm from by rw [hse, ← hexp]; exact decide_eq_decide.2 (by omega)]; cases sm <;> decide)
                refine JC_skip ?_
                refine JE_block ?_
                refine JE_seq ?_
                refine JC_region ?_
                refine JL_pd rfl (det_move rfl) ?_
                refine JL_pd rfl (det_add rfl rfl ⟨by omega, by omega⟩) ?_
                refine JL_pd rfl (det_assign rfl) ?_
                refine JL_nil ?_
                -- stop: end
                refine JE_roundF hK (k + 1) (by omega) (by omega) (stsub_consI rfl (by omega) stsub_nil) ht_nil
          · refine JC_exit ?_
            refine JE_seq_exit ?_
            refine JE_then_exit ?_
            refine JE_block_here ?_
            refine JE_seq ?_
            refine JC_seq ?_
            refine JC_region ?_
            refine JL_step rfl rfl rfl (jo_callv rfl rfl Try.call16 rfl (awake_j)) fun _ => ?_
            refine JL_pd rfl (det_assign rfl) ?_
            refine JL_nil ?_
            refine JE_seq ?_
            refine JC_ret ?_
            -- stop: out
            refine JE_out (.inl rfl) () (results1 Try.results12 (res_tmp rfl)) rfl (List.Perm.refl _) (fun _ _ => trivial)
    · skip
      refine JL_is (d0 := 26) true rfl (by rw [decide_eq_false hE]; rfl) (fun g2 => ?_)
      refine JL_skip rfl rfl g2 rfl ?_
      refine JL_skip rfl rfl g2 rfl ?_
      refine JL_skip rfl rfl g2 rfl ?_
      refine JL_pd rfl (det_pick_t rfl g2 rfl) ?_
      refine JL_nil ?_
      refine JE_seq ?_
      refine JC_condT rfl rfl ?_
      refine JC_seq ?_
      refine JC_region ?_
      refine JL_step rfl rfl rfl (jo_callv rfl rfl Try.call16 rfl (awake_j)) fun _ => ?_
      refine JL_pd rfl (det_assign rfl) ?_
      refine JL_nil ?_
      refine JE_seq ?_
      refine JC_ret ?_
      refine JE_seq_ret ?_
      -- stop: out
      refine JE_out (.inl rfl) () (results1 Try.results12 (res_tmp rfl)) rfl (List.Perm.refl _) (fun _ _ => trivial)
theorem BillEnds_i (ad : Option Addr) (c : Nat) (ls : List Ms) (wn : Int) (hm : 0 ≤ wn ∧ wn ≤ 255) : Cv Try.prog 12 [.slice ad ls.length c, .int .u8 wn] (KSl ad ls.length c encM ls) (.bool true) := by
  obtain ⟨x, rfl⟩ : ∃ n : Nat, wn = n := ⟨wn.toNat, by omega⟩
  exact BillEnds_j ad c ls x (by omega)
end Go.Proofs.Ytjbmkdbgobmclaa
