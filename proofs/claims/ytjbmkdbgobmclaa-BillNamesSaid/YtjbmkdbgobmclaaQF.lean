/- Own texts, laid together: B44 B45. Nothing is asked. -/
import Derived.Test.YtjbmkdbgobmclaaQD
set_option linter.unusedSimpArgs false
set_option linter.unusedVariables false
/- Walks of bill: ProvePurchase. -/
namespace Go.Proofs.Ytjbmkdbgobmclaa
open Go.RowKit Go.Shelf

/-- What of an amount some purchase leaves. -/
def remP (need H : Am) : Am := ⟨max 0 (need.g - H.g), max 0 (need.q - H.q), max 0 (need.s - H.s)⟩
theorem rem12 {need H : Am} (hn : am12 need) (h : 0 ≤ H.g ∧ 0 ≤ H.q ∧ 0 ≤ H.s) : am12 (remP need H) := by
  unfold am12 remP at *
  simp only
  omega
theorem rem_0 {need H : Am} : decide (remP need H = ⟨0, 0, 0⟩) = leA need H := by
  unfold leA remP
  refine decide_eq_decide.2 ⟨fun h => ?_, fun h => ?_⟩
  · have h1 := congrArg Am.g h
    have h2 := congrArg Am.q h
    have h3 := congrArg Am.s h
    simp only at h1 h2 h3
    omega
  · congr 1 <;> omega
theorem rem_wos {need H a : Am} (hn : am12 need) (h : 0 ≤ H.g ∧ 0 ≤ H.q ∧ 0 ≤ H.s) (ha : VAm a) (n : Nat) (hg : 0 ≤ (n : Int) * a.g ∧ 0 ≤ (n : Int) * a.q ∧ 0 ≤ (n : Int) * a.s) : wos (remP need H) a n = remP need ⟨H.g + n * a.g, H.q + n * a.q, H.s + n * a.s⟩ := by
  rw [wos_eq (rem12 hn h) ha]
  unfold remP
  simp only
  congr 1 <;> omega
def provB (l : List Of) (need : Am) (at_ : Int) (p : List Int) (cost : Int) : Bool := decide (askE l need at_ = 0) && (alP at_ l p && (leA need (hvP l p) && decide (coP l p ≤ cost)))
set_option maxRecDepth 100000 in
set_option maxHeartbeats 2000000 in
theorem ProvePurchase_j (a : Option Addr) (c : Nat) (ls : List Of) (need : Am) (at_ : Int) (pa : Option Addr) (pc : Nat) (p : List Int) (cost : Int) (hl : ls.length ≤ 1000) : Cv Try.prog 41 [.slice a ls.length c, .agg #[I need.g, I need.q, I need.s], I at_, .slice pa p.length pc, I cost] (KAnd (KSl a ls.length c encO ls) (KSl pa p.length pc encI p)) (.bool (provB ls need at_ p cost)) := by
  have hask := asked_j a c ls need at_
  unfold provB
  by_cases hE : askE ls need at_ = 0
  · rw [hE] at hask ⊢
    obtain ⟨ht, hna, ha1, ha2⟩ := ask_of hE
    obtain ⟨hl6, hV⟩ := tar_of ht
    have hn := am12_of hna
    refine Cx_of Try.func41 rfl Try.ntmps41 rfl fun w0 M0 => ?_
    refine JC_seq ?_
    refine JC_region ?_
    refine JL_step rfl rfl rfl (jo_box rfl rfl) fun b6 => ?_
    refine JL_pd rfl (det_assign rfl) ?_
    refine JL_nil ?_
    refine JE_seq ?_
    refine JC_seq ?_
    refine JC_seq ?_
    refine JC_region ?_
    refine JL_pd rfl (det_move rfl) ?_
    refine JL_dt rfl (det_loadKA rfl Try.isAgg60 Try.sizeOf60 rfl rfl) ?_
    refine JL_pd rfl (det_move rfl) ?_
    refine JL_step rfl rfl rfl (jo_callv rfl rfl Try.call65 rfl (hask)) fun _ => ?_
    refine JL_pd rfl (det_neq rfl rfl) ?_
    refine JL_pd rfl (det_move rfl) ?_
    -- stop: guard 5
    refine JL_is (d0 := 20) false rfl (by rfl) (fun g1 => ?_)
    refine JL_guard rfl rfl g1 ?_
    refine JL_pd rfl (det_move rfl) ?_
    refine JL_guard rfl rfl g1 ?_
    refine JL_pd rfl (det_len rfl Try.runUnderlying22) ?_
    refine JL_guard rfl rfl g1 ?_
    refine JL_pd rfl (det_move rfl) ?_
    refine JL_guard rfl rfl g1 ?_
    refine JL_pd rfl (det_len rfl Try.runUnderlying58) ?_
    refine JL_guard rfl rfl g1 ?_
    refine JL_pd rfl (det_neq rfl rfl) ?_
    refine JL_pd rfl (det_pick_f rfl g1 rfl) ?_
    refine JL_nil ?_
    refine JE_seq ?_
    -- stop: cond
    refine JC_ifn rfl (fun h1 => ?_) (fun h1 => ?_)
    · refine JC_seq ?_
      refine JC_region ?_
      refine JL_pd rfl (det_assign rfl) ?_
      refine JL_nil ?_
      refine JE_seq ?_
      refine JC_ret ?_
      refine JE_seq_ret ?_
      -- stop: out
      refine JE_out (.inl rfl) () (results1 Try.results41 (res_tmp rfl)) (by cases h : alP at_ ls p; rfl; exact absurd (alP_len h) (fun e => h1 (by omega))) (List.Perm.refl _) (fun _ _ => trivial)
    · have h1 : p.length = ls.length := by omega
      refine JC_skip ?_
      refine JE_seq ?_
      refine JC_seq ?_
      refine JC_region ?_
      refine JL_dt rfl (det_loadKA rfl Try.isAgg60 Try.sizeOf60 rfl rfl) ?_
      refine JL_step rfl rfl rfl (jo_callv rfl rfl Try.call71 rfl (numbers_j need)) fun _ => ?_
      refine JL_step rfl rfl rfl (jo_alloc0 Try.zeroValue123 rfl) fun b11 => ?_
      refine JL_step0 rfl rfl (jo_store rfl rfl rfl (by first | (simp only [splice_norm]; done) | (simp only [splice_norm]; rfl) | rfl) Try.sizeOf123 rfl rfl) fun _ => ?_
      refine JL_pd rfl (det_assign rfl) ?_
      refine JL_nil ?_
      refine JE_seq ?_
      refine JC_seq ?_
      refine JC_seq ?_
      refine JC_region ?_
      refine JL_pd rfl (det_move rfl) ?_
      refine JL_pd rfl (det_len rfl Try.runUnderlying22) ?_
      refine JL_pd rfl (det_move rfl) ?_
      refine JL_nil ?_
      refine JE_seq ?_
      refine JC_block ?_
      -- stop: loop
      refine JC_loopF (γ := Nat) (fun i => i ≤ ls.length ∧ alP at_ (ls.take i) (p.take i) = true) (fun i => [(31, I i), (12, I (coP (ls.take i) (p.take i)))]) (fun i => [bx b11 [I (remP need (hvP (ls.take i) (p.take i))).g, I (remP need (hvP (ls.take i) (p.take i))).q, I (remP need (hvP (ls.take i) (p.take i))).s]]) (fun i => ls.length - i) 0 ⟨Nat.zero_le _, rfl⟩ (stsub_consI rfl rfl (stsub_consI rfl rfl stsub_nil)) (ht_bx (by unfold remP; obtain ⟨q1, _, q2, _, q3, _⟩ := hn; simp only [List.take_zero, hvP, Int.sub_zero]; rw [Int.max_eq_right q1, Int.max_eq_right q2, Int.max_eq_right q3]) ht_nil) ?_
      rintro i ⟨hi, hal⟩ K hK
      dsimp only [List.cons_append, List.nil_append]
      have hb := hvP_0 (take_V hV i) hal
      rw [List.length_take] at hb
      refine JC_seq ?_
      refine JC_region ?_
      refine JL_pd rfl (det_lss rfl rfl) ?_
      refine JL_nil ?_
      refine JE_seq ?_
      refine JC_seq ?_
      -- stop: cond
      refine JC_if rfl (fun h2 => ?_) (fun h2 => ?_)
      · have hi2 : i < ls.length := by omega
        have hi3 : i < p.length := by omega
        have hv := hV _ (List.getElem_mem hi2)
        have hs := hv_snoc h1 hi2
        have hcs := co_snoc h1 hi2
        have has := al_snoc (at_ := at_) h1 hi2
        rw [hal, Bool.true_and] at has
        refine JC_skip ?_
        refine JE_seq ?_
        refine JC_seq ?_
        refine JC_block ?_
        refine JC_seq ?_
        refine JC_region ?_
        refine JL_pd rfl (det_move rfl) ?_
        refine JL_dt rfl (det_indexAddr rfl rfl (by first | rfl | omega) (by first | assumption | omega | decide) Try.runUnderlying22 Try.sizeOf3) ?_
        refine JL_dt rfl (det_loadE rfl (by first | assumption | omega | decide) Try.isAgg3 rfl rfl) ?_
        refine JL_pd rfl (det_assign rfl) ?_
        refine JL_pd rfl (det_assign rfl) ?_
        refine JL_nil ?_
        refine JE_seq ?_
        refine JC_seq ?_
        refine JC_seq ?_
        refine JC_region ?_
        refine JL_pd rfl (det_move rfl) ?_
        refine JL_pd rfl (det_move rfl) ?_
        refine JL_pd rfl (det_move rfl) ?_
        refine JL_dt rfl (det_indexAddr rfl rfl (by first | rfl | omega) (by first | assumption | omega | decide) Try.runUnderlying58 Try.sizeOf96) ?_
        refine JL_dt rfl (det_loadEA rfl (by first | assumption | omega | decide) Try.isAgg96 Try.sizeOf96 rfl rfl rfl) ?_
        refine JL_pd rfl (det_move rfl) ?_
        refine JL_step rfl rfl rfl (jo_callv rfl rfl Try.call67 rfl (most_j ls[i] at_)) fun _ => ?_
        refine JL_step rfl rfl rfl (jo_callv rfl rfl Try.call56 rfl (within_j p[i] 0 (mostV ls[i] at_))) fun _ => ?_
        refine JL_pd rfl (det_not rfl) ?_
        refine JL_nil ?_
        refine JE_seq ?_
        -- stop: cond
        refine JC_cond rfl (fun h3 => ?_) (fun h3 => ?_)
        · simp only [Bool.not_eq_true'] at h3
          refine JC_seq ?_
          refine JC_region ?_
          refine JL_pd rfl (det_assign rfl) ?_
          refine JL_nil ?_
          refine JE_seq ?_
          refine JC_ret ?_
          refine JE_seq_ret ?_
          refine JE_block_ret ?_
          refine JE_seq_ret ?_
          refine JE_then_ret ?_
          refine JE_block_ret ?_
          refine JE_seq_ret ?_
          -- stop: out
          refine JE_out (.inl rfl) () (results1 Try.results41 (res_tmp rfl)) (by cases h : alP at_ ls p; rfl; (have := alP_get h i hi2 hi3; rw [h3] at this; cases this)) (List.Perm.refl _) (fun _ _ => trivial)
        · simp only [Bool.not_eq_false'] at h3
          have hbb := buy_bd hv h3
          obtain ⟨n, hn2⟩ : ∃ n : Nat, p[i] = n := ⟨p[i].toNat, by omega⟩
          have h12 := rem12 hn ⟨hb.1, hb.2.1, hb.2.2.1⟩
          have hrw := rem_wos hn ⟨hb.1, hb.2.1, hb.2.2.1⟩ hv.am n (by rw [← hn2]; exact ⟨hbb.2.2.1, hbb.2.2.2.2.1, hbb.2.2.2.2.2.2.1⟩)
          rw [← hn2, ← hs] at hrw
          generalize remP need (hvP (ls.take i) (p.take i)) = R at h12 hrw
          generalize coP (ls.take i) (p.take i) = C at hb hcs
          refine JC_skip ?_
          refine JE_seq ?_
          refine JC_seq ?_
          refine JC_seq ?_
          refine JC_region ?_
          refine JL_pd rfl (det_move rfl) ?_
          refine JL_pd rfl (det_move rfl) ?_
          refine JL_nil ?_
          refine JE_seq ?_
          refine JC_block ?_
          -- stop: loop
          refine JC_loopF (γ := Nat) (fun k => k ≤ n) (fun k => [(46, I k)]) (fun k => [bx b11 [I (wos R ls[i].am k).g, I (wos R ls[i].am k).q, I (wos R ls[i].am k).s]]) (fun k => n - k) 0 (Nat.zero_le _) (stsub_consI rfl rfl stsub_nil) (ht_bx rfl ht_nil) ?_
          intro k hk K1 hK1
          dsimp only [List.cons_append, List.nil_append]
          have hw12 := wos12 h12 hv.am k
          have hwn : wos R ls[i].am (k + 1) = wo (wos R ls[i].am k) ls[i].am := rfl
          generalize hWd : wos R ls[i].am k = W at hw12 hwn
          refine JC_seq ?_
          refine JC_region ?_
          refine JL_pd rfl (det_lss rfl rfl) ?_
          refine JL_nil ?_
          refine JE_seq ?_
          refine JC_seq ?_
          -- stop: cond
          refine JC_if rfl (fun h4 => ?_) (fun h4 => ?_)
          · have hk2 : k < n := by omega
            refine JC_skip ?_
            refine JE_seq ?_
            refine JC_seq ?_
            refine JC_block ?_
            refine JC_draw [7] (by kernel_rfl) ?_
            refine JA_dt (i := 0) rfl (by kernel_rfl) (by kernel_rfl) rfl rfl (det_loadKA rfl Try.isAgg123 Try.sizeOf123 rfl rfl) ?_
            refine JA_pd (i := 1) rfl (by kernel_rfl) rfl rfl (det_move rfl) ?_
            refine JA_pd (i := 2) rfl (by kernel_rfl) rfl rfl (det_move rfl) ?_
            refine JA_dt (i := 3) rfl (by kernel_rfl) (by kernel_rfl) rfl rfl (det_indexAddr rfl rfl (by first | rfl | omega) (by first | assumption | omega | decide) Try.runUnderlying58 Try.sizeOf96) ?_
            refine JA_pd (i := 4) rfl (by kernel_rfl) rfl rfl (det_fieldAddrE rfl fo_96_1) ?_
            refine JA_dt (i := 5) rfl (by kernel_rfl) (by kernel_rfl) rfl rfl (det_loadEAk rfl (by first | assumption | omega | decide) Try.isAgg60 Try.sizeOf60 rfl rfl rfl) ?_
            refine JA_one (i := 6) (by kernel_rfl) rfl rfl (jo_callv rfl rfl Try.call70 rfl (without_j W ls[i].am (by unfold am12 at hw12; omega) hv.am)) (fun _ => ⟨hsub_refl, fun _ h => h⟩) fun _ => ?_
            refine JA_tail (i := 7) (by kernel_rfl) rfl rfl rfl rfl (jo_store rfl rfl rfl (by first | (simp only [splice_norm]; done) | (simp only [splice_norm]; rfl) | rfl) Try.sizeOf123 rfl rfl) fun _ => ?_
            refine JT_done (by kernel_rfl) ?_
            refine JE_block ?_
            refine JE_seq ?_
            refine JC_region ?_
            refine JL_pd rfl (det_add rfl rfl ⟨by omega, by omega⟩) ?_
            refine JL_pd rfl (det_move rfl) ?_
            refine JL_nil ?_
            -- stop: end
            refine JE_roundF hK1 (k + 1) (by omega) (by omega) (stsub_consI rfl (by omega) stsub_nil) (ht_bx (by rw [hwn]) ht_nil)
          · obtain rfl : k = n := by omega
            rw [hWd] at hrw
            refine JC_exit ?_
            refine JE_seq_exit ?_
            refine JE_then_exit ?_
            refine JE_block_here ?_
            refine JE_seq ?_
            refine JC_region ?_
            refine JL_pd rfl (det_move rfl) ?_
            refine JL_pd rfl (det_move rfl) ?_
            refine JL_pd rfl (det_move rfl) ?_
            refine JL_pd rfl (det_move rfl) ?_
            refine JL_dt rfl (det_indexAddr rfl rfl (by first | rfl | omega) (by first | assumption | omega | decide) Try.runUnderlying58 Try.sizeOf96) ?_
            refine JL_pd rfl (det_fieldAddrE rfl fo_96_0) ?_
            refine JL_dt rfl (det_loadEk rfl (by first | assumption | omega | decide) Try.isAgg3 rfl rfl) ?_
            refine JL_pd rfl (det_mul rfl rfl ⟨by omega, by omega⟩) ?_
            refine JL_pd rfl (det_add rfl rfl ⟨by omega, by omega⟩) ?_
            refine JL_pd rfl (det_assign rfl) ?_
            refine JL_nil ?_
            refine JE_block ?_
            refine JE_seq ?_
            refine JC_region ?_
            refine JL_pd rfl (det_add rfl rfl ⟨by omega, by omega⟩) ?_
            refine JL_pd rfl (det_move rfl) ?_
            refine JL_nil ?_
            -- stop: end
            refine JE_roundF hK (i + 1) ⟨by omega, by rw [has]; exact h3⟩ (by omega) (stsub_consI rfl (by omega) (stsub_consI rfl (by rw [hcs]) stsub_nil)) (ht_bx (by rw [← hrw]) ht_nil)
      · obtain rfl : i = ls.length := by omega
        have hpt : p.take ls.length = p := List.take_of_length_le (by omega)
        rw [List.take_length, hpt] at hal hb ⊢
        have hr0 := rem_0 (need := need) (H := hvP ls p)
        refine JC_exit ?_
        refine JE_seq_exit ?_
        refine JE_then_exit ?_
        refine JE_block_here ?_
        refine JE_seq ?_
        refine JC_seq ?_
        refine JC_region ?_
        refine JL_dt rfl (det_loadKA rfl Try.isAgg123 Try.sizeOf123 rfl rfl) ?_
        refine JL_pd rfl (det_build rfl (bld_123)) ?_
        refine JL_pd rfl (det_eqlA rfl rfl egtN (fun w => eqN3 9998 (remP need (hvP ls p)) ⟨0, 0, 0⟩ w)) ?_
        refine JL_pd rfl (det_move rfl) ?_
        -- stop: guard 3
        rw [hr0]
        by_cases h5 : leA need (hvP ls p) = true
        · refine JL_is (d0 := 69) true rfl (by exact h5) (fun g2 => ?_)
          refine JL_guard rfl rfl g2 ?_
          refine JL_pd rfl (det_move rfl) ?_
          refine JL_guard rfl rfl g2 ?_
          refine JL_pd rfl (det_move rfl) ?_
          refine JL_guard rfl rfl g2 ?_
          refine JL_pd rfl (det_leq rfl rfl) ?_
          refine JL_pd rfl (det_pick_t rfl g2 rfl) ?_
          refine JL_pd rfl (det_assign rfl) ?_
          refine JL_nil ?_
          refine JE_seq ?_
          refine JC_ret ?_
          -- stop: out
          refine JE_out (.inl rfl) () (results1 Try.results41 (res_tmp rfl)) (by rw [hal, h5]; rfl) (List.Perm.refl _) (fun _ _ => trivial)
        · rw [Bool.not_eq_true] at h5
          refine JL_is (d0 := 69) false rfl (by exact h5) (fun g2 => ?_)
          refine JL_skip rfl rfl g2 rfl ?_
          refine JL_skip rfl rfl g2 rfl ?_
          refine JL_skip rfl rfl g2 rfl ?_
          refine JL_pd rfl (det_pick_f rfl g2 rfl) ?_
          refine JL_pd rfl (det_assign rfl) ?_
          refine JL_nil ?_
          refine JE_seq ?_
          refine JC_ret ?_
          -- stop: out
          refine JE_out (.inl rfl) () (results1 Try.results41 (res_tmp rfl)) (by rw [hal, h5]; rfl) (List.Perm.refl _) (fun _ _ => trivial)
  · rw [decide_eq_false hE, Bool.false_and]
    generalize askE ls need at_ = E at hE hask
    refine Cx_of Try.func41 rfl Try.ntmps41 rfl fun w0 M0 => ?_
    refine JC_seq ?_
    refine JC_region ?_
    refine JL_step rfl rfl rfl (jo_box rfl rfl) fun b6 => ?_
    refine JL_pd rfl (det_assign rfl) ?_
    refine JL_nil ?_
    refine JE_seq ?_
    refine JC_seq ?_
    refine JC_seq ?_
    refine JC_region ?_
    refine JL_pd rfl (det_move rfl) ?_
    refine JL_dt rfl (det_loadKA rfl Try.isAgg60 Try.sizeOf60 rfl rfl) ?_
    refine JL_pd rfl (det_move rfl) ?_
    refine JL_step rfl rfl rfl (jo_callv rfl rfl Try.call65 rfl (hask)) fun _ => ?_
    refine JL_pd rfl (det_neq rfl rfl) ?_
    refine JL_pd rfl (det_move rfl) ?_
    -- stop: guard 5
    refine JL_is (d0 := 20) true rfl (by rw [decide_eq_false hE]; rfl) (fun g1 => ?_)
    refine JL_skip rfl rfl g1 rfl ?_
    refine JL_skip rfl rfl g1 rfl ?_
    refine JL_skip rfl rfl g1 rfl ?_
    refine JL_skip rfl rfl g1 rfl ?_
    refine JL_skip rfl rfl g1 rfl ?_
    refine JL_pd rfl (det_pick_t rfl g1 rfl) ?_
    refine JL_nil ?_
    refine JE_seq ?_
    refine JC_condT rfl rfl ?_
    refine JC_seq ?_
    refine JC_region ?_
    refine JL_pd rfl (det_assign rfl) ?_
    refine JL_nil ?_
    refine JE_seq ?_
    refine JC_ret ?_
    refine JE_seq_ret ?_
    -- stop: out
    refine JE_out (.inl rfl) () (results1 Try.results41 (res_tmp rfl)) rfl (List.Perm.refl _) (fun _ _ => trivial)
end Go.Proofs.Ytjbmkdbgobmclaa

/- Walks of the laws of bill: few purchases; Best in one contract. -/
namespace Go.Proofs.Ytjbmkdbgobmclaa
open Go.RowKit Go.Shelf

def prodM (l : List Of) : Int := l.foldl (fun n o => n * (o.most + 1)) 1
theorem prod_go : ∀ (l : List Of) (n : Int) (k : Nat), (∀ o ∈ l, VOf o) → 1 ≤ n → n ≤ 13 ^ k → 1 ≤ l.foldl (fun n o => n * (o.most + 1)) n ∧ l.foldl (fun n o => n * (o.most + 1)) n ≤ 13 ^ (k + l.length)
  | [], n, k, _, h1, h2 => ⟨h1, h2⟩
  | o :: l, n, k, hV, h1, h2 => by
    have ho := hV o (List.mem_cons_self ..)
    have m0 := ho.m0
    have m1 := ho.m1
    have e1 : n * 1 ≤ n * (o.most + 1) := Int.mul_le_mul_of_nonneg_left (by omega) (by omega)
    have e2 : n * (o.most + 1) ≤ 13 ^ k * 13 := Int.mul_le_mul h2 (by omega) (by omega) (by omega)
    have := prod_go l (n * (o.most + 1)) (k + 1) (fun x hx => hV x (List.mem_cons_of_mem _ hx)) (by omega) (by rw [Int.pow_succ]; exact e2)
    rw [List.foldl_cons, List.length_cons, show k + (l.length + 1) = k + 1 + l.length from by omega]
    exact this
theorem prod_bd {l : List Of} (hV : ∀ o ∈ l, VOf o) (hl : l.length ≤ 6) : 1 ≤ prodM l ∧ prodM l ≤ 4826809 := by
  have h := prod_go l 1 0 hV (by omega) (by simp)
  refine ⟨h.1, Int.le_trans h.2 ?_⟩
  rw [Nat.zero_add]
  have : ∀ n : Nat, n ≤ 6 → (13 : Int) ^ n ≤ 4826809 := by decide
  exact this _ hl
def fewB (l : List Of) : Bool := if tarE l ≠ 0 then true else decide (prodM l ≤ 5000)
set_option maxRecDepth 100000 in
theorem Few_j (a : Option Addr) (c : Nat) (ls : List Of) (hl : ls.length ≤ 1000) : Cv Try.prog 39 [.slice a ls.length c] (KSl a ls.length c encO ls) (.bool (fewB ls)) := by
  refine Cx_of Try.func39 rfl Try.ntmps39 rfl fun w0 M0 => ?_
  refine JC_seq ?_
  refine JC_region ?_
  refine JL_pd rfl (det_assign rfl) ?_
  refine JL_nil ?_
  refine JE_seq ?_
  refine JC_seq ?_
  refine JC_seq ?_
  refine JC_region ?_
  refine JL_pd rfl (det_move rfl) ?_
  refine JL_step rfl rfl rfl (jo_callv rfl rfl Try.call35 rfl (Fault_j a c ls hl)) fun _ => ?_
  refine JL_pd rfl (det_neq rfl rfl) ?_
  refine JL_nil ?_
  refine JE_seq ?_
  -- stop: cond
  refine JC_ifn rfl (fun h1 => ?_) (fun h1 => ?_)
  · refine JC_seq ?_
    refine JC_region ?_
    refine JL_pd rfl (det_assign rfl) ?_
    refine JL_nil ?_
    refine JE_seq ?_
    refine JC_ret ?_
    refine JE_seq_ret ?_
    -- stop: out
    refine JE_out (.inl rfl) () (results1 Try.results39 (res_tmp rfl)) (by unfold fewB; rw [if_pos h1]) (List.Perm.refl _) (fun _ _ => trivial)
  · have h1 : tarE ls = 0 := h1
    obtain ⟨hl6, hV⟩ := tar_of h1
    refine JC_skip ?_
    refine JE_seq ?_
    refine JC_seq ?_
    refine JC_region ?_
    refine JL_pd rfl (det_assign rfl) ?_
    refine JL_nil ?_
    refine JE_seq ?_
    refine JC_seq ?_
    refine JC_seq ?_
    refine JC_region ?_
    refine JL_pd rfl (det_assign rfl) ?_
    refine JL_nil ?_
    refine JE_seq ?_
    refine JC_block ?_
    -- stop: loop
    refine JC_loopF (γ := Nat) (fun i => i ≤ ls.length) (fun i => [(4, I i), (3, I (prodM (ls.take i)))]) (fun _ => []) (fun i => ls.length - i) 0 (Nat.zero_le _) (stsub_consI rfl rfl (stsub_consI rfl rfl stsub_nil)) ht_nil ?_
    intro i hi K hK
    dsimp only [List.cons_append, List.nil_append]
    have hb := prod_bd (take_V hV i) (by rw [List.length_take]; omega)
    refine JC_seq ?_
    refine JC_seq ?_
    refine JC_region ?_
    refine JL_pd rfl (det_move rfl) ?_
    refine JL_pd rfl (det_move rfl) ?_
    refine JL_pd rfl (det_len rfl Try.runUnderlying50) ?_
    refine JL_pd rfl (det_lss rfl rfl) ?_
    refine JL_nil ?_
    refine JE_seq ?_
    -- stop: cond
    refine JC_if rfl (fun h2 => ?_) (fun h2 => ?_)
    · have hi2 : i < ls.length := by omega
      have hv := hV _ (List.getElem_mem hi2)
      have m0 := hv.m0
      have m1 := hv.m1
      have hsn : prodM (ls.take (i + 1)) = prodM (ls.take i) * (ls[i].most + 1) := by unfold prodM; rw [take_snoc hi2, List.foldl_append]; rfl
      have hb2 := prod_bd (take_V hV (i + 1)) (by rw [List.length_take]; omega)
      rw [hsn] at hb2
      refine JC_skip ?_
      refine JE_seq ?_
      refine JC_seq ?_
      refine JC_block ?_
      refine JC_region ?_
      refine JL_pd rfl (det_move rfl) ?_
      refine JL_pd rfl (det_move rfl) ?_
      refine JL_pd rfl (det_move rfl) ?_
      refine JL_dt rfl (det_indexAddr rfl rfl (by first | rfl | omega) (by first | assumption | omega | decide) Try.runUnderlying50 Try.sizeOf54) ?_
      refine JL_pd rfl (det_fieldAddrE rfl fo_54_3) ?_
      refine JL_dt rfl (det_loadEk rfl (by first | assumption | omega | decide) Try.isAgg3 rfl rfl) ?_
      refine JL_pd rfl (det_add rfl rfl ⟨by omega, by omega⟩) ?_
      refine JL_pd rfl (det_mul rfl rfl ⟨by omega, by omega⟩) ?_
      refine JL_pd rfl (det_assign rfl) ?_
      refine JL_nil ?_
      refine JE_block ?_
      refine JE_seq ?_
      refine JC_region ?_
      refine JL_pd rfl (det_move rfl) ?_
      refine JL_pd rfl (det_add rfl rfl ⟨by omega, by omega⟩) ?_
      refine JL_pd rfl (det_assign rfl) ?_
      refine JL_nil ?_
      -- stop: end
      refine JE_roundF hK (i + 1) (by omega) (by omega) (stsub_consI rfl (by omega) (stsub_consI rfl hsn.symm stsub_nil)) ht_nil
    · obtain rfl : i = ls.length := by omega
      rw [List.take_length]
      refine JC_exit ?_
      refine JE_seq_exit ?_
      refine JE_then_exit ?_
      refine JE_block_here ?_
      refine JE_seq ?_
      refine JC_seq ?_
      refine JC_region ?_
      refine JL_pd rfl (det_move rfl) ?_
      refine JL_pd rfl (det_leq rfl rfl) ?_
      refine JL_pd rfl (det_assign rfl) ?_
      refine JL_nil ?_
      refine JE_seq ?_
      refine JC_ret ?_
      -- stop: out
      refine JE_out (.inl rfl) () (results1 Try.results39 (res_tmp rfl)) (by unfold fewB; rw [if_neg (fun h => h h1)]) (List.Perm.refl _) (fun _ _ => trivial)
/-- The best purchase of any tariff, amount and hour. -/
def bR (l : List Of) (need : Am) (at_ : Int) : Option Bt := if askE l need at_ = 0 then bst at_ l need else none
def bErr (l : List Of) (need : Am) (at_ : Int) : Int := if askE l need at_ ≠ 0 then askE l need at_ else if (bst at_ l need).isSome = true then 0 else 9
def bCost (r : Option Bt) : Int := match r with | some b => b.cost | none => 0
def bList (r : Option Bt) : List Int := match r with | some b => b.list | none => []
theorem Cv.cr {P : Program} {f : FuncId} {args : List Value} {pre : World → Prop} {v : Value} {α : Type} {ret : α → Value} {post : α → World → Prop} (h : Cv P f args pre v) (x : α) (hv : ret x = v) (hp : ∀ w, post x w) : Cr P f args pre ret post := by
  intro M w a1 a2 a3 a4
  refine Calls.mono (h M w a1 a2 a3 a4) ?_
  rintro e w' ⟨_, M', b1, b2, b3, b4, b5, b6, b7, b8⟩
  exact ⟨x, M', by rw [hv]; exact b1, b2, b3, b4, b5, (fun c hc => by cases hc), List.Pairwise.nil, fun w2 _ => hp w2⟩
theorem Best_u (a : Option Addr) (c : Nat) (l : List Of) (need : Am) (at_ : Int) : Cr Try.prog 32 [.slice a l.length c, .agg #[I need.g, I need.q, I need.s], I at_] (KSl a l.length c encO l) (fun q : Option Addr × Nat => .tuple #[.slice q.1 (bList (bR l need at_)).length q.2, I (bCost (bR l need at_)), I (bErr l need at_)]) (fun q => KSl q.1 (bList (bR l need at_)).length q.2 encI (bList (bR l need at_))) := by
  unfold bR bErr
  by_cases hE : askE l need at_ = 0
  · rw [if_pos hE, if_neg (fun h => h hE)]
    have h := Best_jo a c l need at_ hE
    cases hb : bst at_ l need with
    | none =>
      rw [hb] at h
      exact Cv.cr (Cr.toCv h fun _ => rfl) (none, 0) rfl KSl_none
    | some b =>
      rw [hb] at h
      exact h
  · rw [if_neg hE, if_pos hE]
    exact Cv.cr (Best_je a c l need at_ hE) (none, 0) rfl KSl_none
end Go.Proofs.Ytjbmkdbgobmclaa
