/- Own texts, laid together: KB KC KD. Nothing is asked. -/
import Derived.Test.YthpkgabckklojaaGreatS7
set_option linter.unusedSimpArgs false
set_option linter.unusedVariables false
/- Rack: Falls, where all is valid. -/
namespace Go.Proofs.YthpkgabckklojaaGreat.Rk
open Go.RowKit Go.Shelf

def sureC : Nat → Lk → Bool := fun _ l => l.s
def anyC : Nat → Lk → Bool := fun _ _ => true
def SureOk (r : Rk) (S : BS) (ball : List Rg) (m : Nat) (A : BS) : Prop := ∀ i, i < 16 → A.getLsbD i = true → ∃ (row : Nat) (h : row < ball.length), row < m ∧ S.getLsbD i = true ∧ ∀ n ∈ bdL ball[row], Fl r.ls S (tch r S row n) sureC i
def MayOk (r : Rk) (S : BS) (ball : List Rg) (m : Nat) (E : BS) : Prop := ∀ (row : Nat) (h : row < ball.length), row < m → ∀ n ∈ bdL ball[row], ∀ i, i < 16 → Fl r.ls S (tch r S row n) anyC i → E.getLsbD i = true
abbrev FallQ (r : Rk) (S : BS) (ball : List Rg) := { p : BS × BS // SureOk r S ball ball.length p.1 ∧ MayOk r S ball ball.length p.2 } × (Option Addr × Nat) × (Option Addr × Nat)
set_option maxRecDepth 100000 in
set_option maxHeartbeats 2000000 in
theorem Falls_j (r : Rk) (a : Option Addr) (c : Nat) (V : VR r) (la : Option Addr) (lc : Nat) (l : List Int) (hl : VP r l) (ba : Option Addr) (bc : Nat) (ball : List Rg) (hB : VB r ball) :
    Cr Tryz.prog 22 [vRk r a c, .slice la l.length lc, .slice ba ball.length bc] (KAnd (KRk r a c) (KAnd (KSl la l.length lc encN l) (KSl ba ball.length bc encRg ball)))
      (fun q : FallQ r (ofL l) ball => .tuple #[.slice q.2.1.1 (lsP q.1.1.1).length q.2.1.2, .slice q.2.2.1 (lsP q.1.1.2).length q.2.2.2, I 0]) (fun q => KAnd (KSl q.2.1.1 (lsP q.1.1.1).length q.2.1.2 encM (lsP q.1.1.1)) (KSl q.2.2.1 (lsP q.1.1.2).length q.2.2.2 encM (lsP q.1.1.2))) := by
  have r0 := V.r0
  have r1 := V.r1
  have hBn := hB.n
  obtain ⟨S, hS⟩ : ∃ S, S = ofL l := ⟨_, rfl⟩
  have hth := thrown_j r a c V la lc l hl ba bc ball hB
  rw [← hS] at hth ⊢
  refine Cx_of Tryz.func22 rfl Tryz.ntmps22 rfl fun w0 M0 => ?_
  refine JC_seq ?_
  refine JC_region ?_
  refine JL_step rfl rfl rfl (jo_box rfl rfl) fun b3 => ?_
  refine JL_pd rfl (det_assign rfl) ?_
  refine JL_pd rfl (det_assign rfl) ?_
  refine JL_pd rfl (det_assign rfl) ?_
  refine JL_nil ?_
  refine JE_seq ?_
  refine JC_seq ?_
  refine JC_region ?_
  refine JL_dt rfl (det_loadKA rfl Tryz.isAgg65 Tryz.sizeOf65 rfl rfl) ?_
  refine JL_pd rfl (det_move rfl) ?_
  refine JL_pd rfl (det_move rfl) ?_
  refine JL_step rfl rfl rfl (jo_callv rfl rfl Tryz.call57 rfl (hth)) fun _ => ?_
  refine JL_pd rfl (det_move rfl) ?_
  refine JL_pd rfl (det_extract rfl rfl) ?_
  refine JL_pd rfl (det_extract rfl rfl) ?_
  refine JL_step rfl rfl rfl (jo_alloc0 Tryz.zeroValue136 rfl) fun b9 => ?_
  refine JL_step0 rfl rfl (jo_store rfl rfl rfl (by first | (simp only [splice_norm]; done) | (simp only [splice_norm]; rfl) | rfl) Tryz.sizeOf136 rfl rfl) fun _ => ?_
  refine JL_pd rfl (det_assign rfl) ?_
  refine JL_nil ?_
  refine JE_seq ?_
  refine JC_seq ?_
  refine JC_seq ?_
  refine JC_region ?_
  refine JL_pd rfl (det_move rfl) ?_
  refine JL_pd rfl (det_neq rfl rfl) ?_
  refine JL_nil ?_
  refine JE_seq ?_
  -- stop: cond
  refine JC_ifn rfl (fun h1 => ?_) (fun h1 => ?_)
  · exact absurd rfl h1
  refine JC_skip ?_
  refine JE_seq ?_
  refine JC_seq ?_
  refine JC_region ?_
  refine JL_pd rfl (det_assign rfl) ?_
  refine JL_step rfl rfl rfl (jo_alloc0 (cs := [bv 0#16]) Tryz.zeroValue134 rfl) fun b11 => ?_
  refine JL_nil ?_
  refine JE_seq ?_
  refine JC_seq ?_
  refine JC_seq ?_
  refine JC_region ?_
  refine JL_pd rfl (det_move rfl) ?_
  refine JL_pd rfl (det_len rfl Tryz.runUnderlying67) ?_
  refine JL_pd rfl (det_move rfl) ?_
  refine JL_nil ?_
  refine JE_seq ?_
  refine JC_block ?_
  -- stop: loop
  refine JC_keep b9 noFp ?_
  refine JC_loopF (γ := Nat × BS × BS) (fun q => q.1 ≤ ball.length ∧ SureOk r S ball q.1 q.2.1 ∧ MayOk r S ball q.1 q.2.2) (fun q => [(28, I q.1), (10, bv q.2.1)]) (fun q => [bx b11 [bv q.2.2]]) (fun q => ball.length - q.1) (0, 0#16, 0#16) ⟨Nat.zero_le _, fun i _ h => (by simp at h), fun row _ h => absurd h (Nat.not_lt_zero row)⟩ (stsub_consI rfl rfl (stsub_cons rfl stsub_nil)) (ht_bx rfl ht_nil) ?_
  rintro ⟨m, A, E⟩ ⟨hm, hA, hE⟩ K hK
  dsimp only [List.cons_append, List.nil_append] at hm hA hE ⊢
  refine JC_seq ?_
  refine JC_region ?_
  refine JL_pd rfl (det_lss rfl rfl) ?_
  refine JL_nil ?_
  refine JE_seq ?_
  refine JC_seq ?_
  -- stop: cond
  refine JC_if rfl (fun h2 => ?_) (fun h2 => ?_)
  · have hm2 : m < ball.length := by omega
    have hbm := hB.b _ (List.getElem_mem hm2)
    refine JC_skip ?_
    refine JE_seq ?_
    refine JC_seq ?_
    refine JC_block ?_
    refine JC_seq ?_
    refine JC_region ?_
    refine JL_pd rfl (det_move rfl) ?_
    refine JL_dt rfl (det_indexAddr rfl rfl (by first | rfl | omega) (by first | assumption | omega | decide) Tryz.runUnderlying67 Tryz.sizeOf71) ?_
    refine JL_dt rfl (det_loadEA rfl (by first | assumption | omega | decide) Tryz.isAgg71 Tryz.sizeOf71 rfl rfl rfl) ?_
    refine JL_step rfl rfl rfl (jo_alloc0 Tryz.zeroValue71 rfl) fun b13 => ?_
    refine JL_pd rfl (det_assign rfl) ?_
    refine JL_step0 rfl rfl (jo_store rfl rfl rfl (by first | (simp only [splice_norm]; done) | (simp only [splice_norm]; rfl) | rfl) Tryz.sizeOf71 rfl rfl) fun _ => ?_
    refine JL_nil ?_
    refine JE_seq ?_
    refine JC_seq ?_
    refine JC_region ?_
    refine JL_pd rfl (det_fieldAddr rfl fo_136_1) ?_
    refine JL_dt rfl (det_loadK rfl Tryz.isAgg134 rfl) ?_
    refine JL_step rfl rfl rfl (jo_alloc0 (cs := [bv 0#16]) Tryz.zeroValue134 rfl) fun b14 => ?_
    refine JL_step0 rfl rfl (jo_store rfl rfl rfl (by first | (simp only [splice_norm]; done) | (simp only [splice_norm]; rfl) | rfl) Tryz.sizeOf134 rfl rfl) fun _ => ?_
    refine JL_nil ?_
    refine JE_seq ?_
    refine JC_seq ?_
    refine JC_seq ?_
    refine JC_region ?_
    refine JL_dt rfl (det_loadKA rfl Tryz.isAgg136 Tryz.sizeOf136 rfl rfl) ?_
    refine JL_pd rfl (det_move rfl) ?_
    refine JL_dt rfl (det_loadKA rfl Tryz.isAgg71 Tryz.sizeOf71 rfl rfl) ?_
    refine JL_step rfl rfl rfl (jo_call rfl rfl Tryz.call62 rfl (each_j r a c S (m : Int) ball[m])) fun x38 => ?_
    refine JL_nil ?_
    refine JE_seq ?_
    refine JC_block ?_
    -- stop: rangeFunc
    have hit := each_it r a c S V (m : Int) ball[m] hbm x38
    refine JC_rangeI (γ := BS × BS) (β := Nat) rfl rfl rfl rfl Tryz.call107 hit (perm2 (bx b14 [bv S]) (bx b11 [bv E])) (fun w _ h => h.1) (fun _ => rfl) ?_
      (fun p g => (∀ i, i < 16 → g.1.getLsbD i = true → S.getLsbD i = true ∧ ∀ n ∈ p, Fl r.ls S (tch r S m n) sureC i) ∧ (∀ i, E.getLsbD i = true → g.2.getLsbD i = true) ∧ ∀ n ∈ p, ∀ i, i < 16 → Fl r.ls S (tch r S m n) anyC i → g.2.getLsbD i = true) (fun _ _ _ => False) (fun g => [bx b14 [bv g.1], bx b11 [bv g.2]]) (S, E) ⟨fun i _ h => ⟨h, fun n hn => absurd hn (List.not_mem_nil)⟩, fun _ h => h, fun n hn => absurd hn (List.not_mem_nil)⟩ rfl
      (fun x t => [(15, bv (tch r S m x)), (9, pt b9), (11, pt b11), (14, pt b14)]) (fun _ _ => []) ?_ ?_ ?_ ?_
    · show ∀ p ∈ [39], p < 60
      decide
    · intro l' x W K0 hK0
      refine JC_region ?_
      refine JL_pd rfl (det_assign rfl) ?_
      refine JL_nil ?_
      -- stop: end
      exact JE_asg (hK0 0) (stsub_cons rfl (stsub_cons rfl (stsub_cons rfl (stsub_cons rfl stsub_nil)))) hsub_nil (fun _ h => trivial)
    · rintro l' p x ⟨by_, ev⟩ t W K1 QX ⟨hy1, hy2, hy3⟩ hpx hK1 _
      dsimp only at hy1 hy2 hy3 ⊢
      have hfs := falls_j r a c S V 64 Tryz.call64 0 sureC (fun k l _ => surely_j l k 0) (tch r S m x)
      have hfm := falls_j r a c S V 65 Tryz.call65 0 anyC (fun k l _ => maybe_j l k 0) (tch r S m x)
      refine JC_block ?_
      refine JC_seq ?_
      refine JC_draw [6] (by kernel_rfl) ?_
      refine JA_dt (i := 0) rfl (by kernel_rfl) (by kernel_rfl) rfl rfl (det_loadK rfl Tryz.isAgg134 rfl) ?_
      refine JA_dt (i := 1) rfl (by kernel_rfl) (by kernel_rfl) rfl rfl (det_loadKA rfl Tryz.isAgg136 Tryz.sizeOf136 rfl rfl) ?_
      refine JA_pd (i := 2) rfl (by kernel_rfl) rfl rfl (det_move rfl) ?_
      refine JA_pd (i := 3) rfl (by kernel_rfl) rfl rfl (det_build rfl (bld_146_0 _ _ _)) ?_
      refine JA_one (i := 4) (by kernel_rfl) rfl rfl (jo_call rfl rfl Tryz.call63 rfl (hfs)) (fun _ => ⟨hsub_drop 0 rfl, fun _ h => h.2⟩) fun x44 => ?_
      refine JA_pd (i := 5) rfl (by kernel_rfl) rfl rfl (det_andS _ _ rfl rfl) ?_
      refine JA_tail (i := 6) (by kernel_rfl) rfl rfl rfl rfl (jo_store rfl rfl rfl (by first | (simp only [splice_norm]; done) | (simp only [splice_norm]; rfl) | rfl) Tryz.sizeOf134 rfl rfl) fun _ => ?_
      refine JT_done (by kernel_rfl) ?_
      refine JE_seq ?_
      -- stop: region
      refine JC_draw [6] (by kernel_rfl) ?_
      refine JA_dt (i := 0) rfl (by kernel_rfl) (by kernel_rfl) rfl rfl (det_loadK rfl Tryz.isAgg134 rfl) ?_
      refine JA_dt (i := 1) rfl (by kernel_rfl) (by kernel_rfl) rfl rfl (det_loadKA rfl Tryz.isAgg136 Tryz.sizeOf136 rfl rfl) ?_
      refine JA_pd (i := 2) rfl (by kernel_rfl) rfl rfl (det_move rfl) ?_
      refine JA_pd (i := 3) rfl (by kernel_rfl) rfl rfl (det_build rfl (bld_146_0 _ _ _)) ?_
      refine JA_one (i := 4) (by kernel_rfl) rfl rfl (jo_call rfl rfl Tryz.call63 rfl (hfm)) (fun _ => ⟨hsub_drop 0 rfl, fun _ h => h.2⟩) fun x50 => ?_
      refine JA_pd (i := 5) rfl (by kernel_rfl) rfl rfl (det_orS _ _ rfl rfl) ?_
      refine JA_tail (i := 6) (by kernel_rfl) rfl rfl rfl rfl (jo_store rfl rfl rfl (by first | (simp only [splice_norm]; done) | (simp only [splice_norm]; rfl) | rfl) Tryz.sizeOf134 rfl rfl) fun _ => ?_
      refine JT_done (by kernel_rfl) ?_
      refine JE_block ?_
      -- stop: end
      refine JE_next (fun st' R' a' W' => hK1 (by_ &&& x44.1, ev ||| x50.1) ⟨fun i hi h => ?_, fun i h => ?_, fun n hn i hi h => ?_⟩ st' R' a' W') (hsub_cons (hsub_cons hsub_nil))
      · simp only [BitVec.getLsbD_and, Bool.and_eq_true] at h
        refine ⟨(hy1 i hi h.1).1, fun n hn => ?_⟩
        rcases List.mem_append.1 hn with hn | hn
        · exact (hy1 i hi h.1).2 n hn
        · rw [List.mem_singleton.1 hn]; exact (x44.2 i hi).1 h.2
      · simp only [BitVec.getLsbD_or, Bool.or_eq_true]
        exact .inl (hy2 i h)
      · simp only [BitVec.getLsbD_or, Bool.or_eq_true]
        rcases List.mem_append.1 hn with hn | hn
        · exact .inl (hy3 n hn i hi h)
        · rw [List.mem_singleton.1 hn] at h; exact .inr ((x50.2 i hi).2 h)
    · rintro ⟨by_, ev⟩ ⟨hy1, hy2, hy3⟩
      dsimp only at hy1 hy2 hy3 ⊢
      refine JE_block ?_
      refine JE_seq ?_
      refine JC_region ?_
      refine JL_pd rfl (det_move rfl) ?_
      refine JL_dt rfl (det_loadK rfl Tryz.isAgg134 rfl) ?_
      refine JL_pd rfl (det_orS _ _ rfl rfl) ?_
      refine JL_pd rfl (det_assign rfl) ?_
      refine JL_nil ?_
      refine JE_block ?_
      refine JE_seq ?_
      refine JC_region ?_
      refine JL_pd rfl (det_add rfl rfl ⟨by omega, by omega⟩) ?_
      refine JL_pd rfl (det_move rfl) ?_
      refine JL_nil ?_
      -- stop: end
      refine JE_roundF hK (m + 1, A ||| by_, ev) ⟨by simp only; omega, fun i hi h => ?_, fun row hr hrm n hn i hi h => ?_⟩ (by simp only; omega) (stsub_consI rfl (by simp only; omega) (stsub_cons rfl stsub_nil)) (ht_cons ht_nil)
      · simp only [BitVec.getLsbD_or, Bool.or_eq_true] at h
        rcases h with h | h
        · obtain ⟨row, q1, q2, q3, q4⟩ := hA i hi h
          exact ⟨row, q1, by simp only; omega, q3, q4⟩
        · exact ⟨m, hm2, by simp only; omega, (hy1 i hi h).1, (hy1 i hi h).2⟩
      · simp only at hrm ⊢
        rcases (by omega : row < m ∨ row = m) with e | rfl
        · exact hy2 i (hE row hr e n hn i hi h)
        · exact hy3 n hn i hi h
    · rintro cd p q _ h
      exact h.elim
  · obtain rfl : m = ball.length := by omega
    refine JC_exit ?_
    refine JE_seq_exit ?_
    refine JE_then_exit ?_
    refine JE_block_here ?_
    refine JE_seq ?_
    refine JC_seq ?_
    refine JC_draw [] (by kernel_rfl) ?_
    refine JA_pd (i := 0) rfl (by kernel_rfl) rfl rfl (det_move rfl) ?_
    refine JA_dt (i := 2) rfl (by kernel_rfl) (by kernel_rfl) rfl rfl (det_loadK rfl Tryz.isAgg134 rfl) ?_
    refine JA_one (i := 1) (by kernel_rfl) rfl rfl (jo_call rfl rfl Tryz.call61 rfl (list_j _)) (fun _ => ⟨hsub_drop 0 rfl, fun _ h => h.2⟩) fun x57 => ?_
    refine JA_one (i := 3) (by kernel_rfl) rfl rfl (jo_call rfl rfl Tryz.call61 rfl (list_j _)) (fun _ => ⟨hsub_drop 0 rfl, fun _ h => h.2⟩) fun x59 => ?_
    refine JA_pd (i := 4) rfl (by kernel_rfl) rfl rfl (det_assign rfl) ?_
    refine JA_pd (i := 5) rfl (by kernel_rfl) rfl rfl (det_assign rfl) ?_
    refine JA_pd (i := 6) rfl (by kernel_rfl) rfl rfl (det_assign rfl) ?_
    refine JA_done (by kernel_rfl) ?_
    refine JE_seq ?_
    refine JC_ret ?_
    -- stop: out
    refine JE_out (.inl rfl) (⟨(A, E), hA, hE⟩, x57, x59) (results3 Tryz.results22 (res_tmp rfl) (res_tmp rfl) (res_tmp rfl)) rfl (List.Perm.refl _) (fun w h => ⟨h.2.1, h.1⟩)
end Go.Proofs.YthpkgabckklojaaGreat.Rk

/- Rack: all that can be left. -/
namespace Go.Proofs.YthpkgabckklojaaGreat.Rk
open Go.RowKit Go.Shelf

def IdP (ls : List Lk) (bits : Nat) : Prop := ∀ k l, ls[k]? = some l → l.s = true → bits.testBit k = false
set_option maxRecDepth 100000 in
theorem idle_j (r : Rk) (a : Option Addr) (c : Nat) (S : BS) (V : VR r) (bits : Nat) (hb : bits < 65536) : Cr Tryz.prog 109 [vHt r a c S, I bits] (KRk r a c) (fun q : {b : Bool // IdP r.ls bits → b = true} => .bool q.1) (fun _ => KTrue) := by
  have hn := V.n
  refine Cx_of Tryz.func109 rfl Tryz.ntmps109 rfl fun w0 M0 => ?_
  refine JC_seq ?_
  refine JC_region ?_
  refine JL_step rfl rfl rfl (jo_box rfl rfl) fun b2 => ?_
  refine JL_pd rfl (det_assign rfl) ?_
  refine JL_nil ?_
  refine JE_seq ?_
  refine JC_seq ?_
  refine JC_seq ?_
  refine JC_region ?_
  refine JL_pd rfl (det_fieldAddr rfl fo_136_0) ?_
  refine JL_pd rfl (det_fieldAddr rfl fo_65_4) ?_
  refine JL_dt rfl (det_loadK rfl Tryz.isAgg63 rfl) ?_
  refine JL_pd rfl (det_len rfl Tryz.runUnderlying63) ?_
  refine JL_pd rfl (det_move rfl) ?_
  refine JL_nil ?_
  refine JE_seq ?_
  refine JC_block ?_
  -- stop: loop
  refine JC_loopF (γ := Nat) (fun i => i ≤ r.ls.length) (fun i => [(11, I i)]) (fun _ => []) (fun i => r.ls.length - i) 0 (Nat.zero_le _) (stsub_consI rfl rfl stsub_nil) ht_nil ?_
  intro i hi K hK
  dsimp only [List.cons_append, List.nil_append]
  refine JC_seq ?_
  refine JC_region ?_
  refine JL_pd rfl (det_lss rfl rfl) ?_
  refine JL_nil ?_
  refine JE_seq ?_
  refine JC_seq ?_
  -- stop: cond
  refine JC_if rfl (fun h1 => ?_) (fun h1 => ?_)
  · have hi2 : i < r.ls.length := by omega
    have hge : r.ls[i]? = some r.ls[i] := List.getElem?_eq_getElem hi2
    obtain ⟨e1, e2, e3⟩ := bit64 bits i (by omega) hb
    refine JC_skip ?_
    refine JE_seq ?_
    refine JC_seq ?_
    refine JC_block ?_
    refine JC_seq ?_
    refine JC_region ?_
    refine JL_pd rfl (det_move rfl) ?_
    refine JL_dt rfl (det_indexAddr rfl rfl (by first | rfl | omega) (by first | assumption | omega | decide) Tryz.runUnderlying63 Tryz.sizeOf141) ?_
    refine JL_dt rfl (det_loadEA rfl (by first | assumption | omega | decide) Tryz.isAgg141 Tryz.sizeOf141 rfl rfl rfl) ?_
    refine JL_step rfl rfl rfl (jo_alloc0 Tryz.zeroValue141 rfl) fun b6 => ?_
    refine JL_pd rfl (det_assign rfl) ?_
    refine JL_step0 rfl rfl (jo_store rfl rfl rfl (by first | (simp only [splice_norm]; done) | (simp only [splice_norm]; rfl) | rfl) Tryz.sizeOf141 rfl rfl) fun _ => ?_
    refine JL_nil ?_
    refine JE_seq ?_
    refine JC_seq ?_
    refine JC_region ?_
    refine JL_pd rfl (det_fieldAddr rfl fo_141_2) ?_
    refine JL_dt rfl (det_loadK rfl Tryz.isAgg4 rfl) ?_
    refine JL_pd rfl (det_move rfl) ?_
    -- stop: guard 2
    refine JL_join1 6 24 (.bool (r.ls[i].s && bits.testBit i)) (fun hj => ?_) ?_
    · refine JL_split (d0 := 18) rfl (fun q1 => ?_) (fun q1 => ?_)
      · refine JL_guard rfl rfl q1 ?_
        refine JL_pd rfl (det_move rfl) ?_
        refine JL_guard rfl rfl q1 ?_
        refine JL_pd rfl (det_move rfl) ?_
        refine JL_guard rfl rfl q1 ?_
        refine JL_pd rfl (det_shrR _ rfl rfl (by omega) e1) ?_
        refine JL_guard rfl rfl q1 ?_
        refine JL_pd rfl (det_andR _ rfl rfl e2) ?_
        refine JL_guard rfl rfl q1 ?_
        refine JL_pd rfl (det_eql rfl rfl) ?_
        refine JL_pd rfl (det_pick_t rfl q1 rfl) ?_
        exact hj (by kernel_rfl) (stsub_consB rfl (by clear hj; first | rfl | (simp only [e3, q1, Bool.and_true, Bool.true_and, Bool.false_and, Bool.and_false, Bool.or_true, Bool.true_or, Bool.or_false, Bool.false_or, Bool.not_true, Bool.not_false]; done) | (simp [e3, q1]; done) | (simp [e3] at q1; done) | (simp [e3, q1] <;> omega) | (exfalso; simp [e3] at q1; omega)) stsub_nil)
      · refine JL_skip rfl rfl q1 rfl ?_
        refine JL_skip rfl rfl q1 rfl ?_
        refine JL_skip rfl rfl q1 rfl ?_
        refine JL_skip rfl rfl q1 rfl ?_
        refine JL_skip rfl rfl q1 rfl ?_
        refine JL_pd rfl (det_pick_f rfl q1 rfl) ?_
        exact hj (by kernel_rfl) (stsub_consB rfl (by clear hj; first | rfl | (simp only [e3, q1, Bool.and_true, Bool.true_and, Bool.false_and, Bool.and_false, Bool.or_true, Bool.true_or, Bool.or_false, Bool.false_or, Bool.not_true, Bool.not_false]; done) | (simp [e3, q1]; done) | (simp [e3] at q1; done) | (simp [e3, q1] <;> omega) | (exfalso; simp [e3] at q1; omega)) stsub_nil)
    refine JL_nil ?_
    refine JE_seq ?_
    -- stop: cond
    refine JC_cond rfl (fun h2 => ?_) (fun h2 => ?_)
    · rw [Bool.and_eq_true] at h2
      refine JC_seq ?_
      refine JC_region ?_
      refine JL_pd rfl (det_assign rfl) ?_
      refine JL_nil ?_
      refine JE_seq ?_
      refine JC_ret ?_
      refine JE_block_ret ?_
      refine JE_seq_ret ?_
      refine JE_then_ret ?_
      refine JE_block_ret ?_
      refine JE_seq_ret ?_
      -- stop: out
      refine JE_out (.inl rfl) ⟨false, fun h => by rw [h i _ hge h2.1] at h2; exact absurd h2.2 (by decide)⟩ (results1 Tryz.results109 (res_tmp rfl)) rfl (List.Perm.refl _) (fun _ _ => trivial)
    · refine JC_skip ?_
      refine JE_block ?_
      refine JE_seq ?_
      refine JC_region ?_
      refine JL_pd rfl (det_add rfl rfl ⟨by omega, by omega⟩) ?_
      refine JL_pd rfl (det_move rfl) ?_
      refine JL_nil ?_
      -- stop: end
      refine JE_roundF hK (i + 1) (by omega) (by omega) (stsub_consI rfl (by omega) stsub_nil) ht_nil
  · refine JC_exit ?_
    refine JE_seq_exit ?_
    refine JE_then_exit ?_
    refine JE_block_here ?_
    refine JE_seq ?_
    refine JC_seq ?_
    refine JC_region ?_
    refine JL_pd rfl (det_assign rfl) ?_
    refine JL_nil ?_
    refine JE_seq ?_
    refine JC_ret ?_
    -- stop: out
    refine JE_out (.inl rfl) ⟨true, fun _ => rfl⟩ (results1 Tryz.results109 (res_tmp rfl)) rfl (List.Perm.refl _) (fun _ _ => trivial)
/-! Keys. -/
def ekB (s : BS) : Value := bv s
theorem ekB_inj {a b : BS} (h : ekB a = ekB b) : a = b := by
  unfold ekB bv at h
  simp only [Value.int.injEq, true_and] at h
  exact BitVec.eq_of_toNat_eq (by omega)
abbrev Sx := Int × BS
def ekSx (x : Sx) : Value := .agg #[I x.1, bv x.2]
theorem chkSx_run (n : Nat) (e : Bool) (x : Sx) (w : World) : (Instr.checkKey e (n + 2) 217 (ekSx x)).run Tryz.prog w = .ok () w := by
  unfold ekSx
  simp [Instr.checkKey, go_sem]
theorem eqSx (x0 : Int) (x1 : Int) (y0 : Int) (y1 : Int) : ∀ w, (Op.equalIn 10000 217 (.agg #[I x0, .int .u16 x1]) (.agg #[I y0, .int .u16 y1])).run Tryz.prog w = .ok (decide (x0 = y0 ∧ x1 = y1)) w := fun w => by
  have ht : Tryz.prog.underlying 217 = some (.struct (Tryz.prog.fieldsOf 217)) := by simp [Program.fieldsOf]
  rw [run_equalIn_struct w 9999 217 _ _ ht (by kernel_rfl)]
  clear ht
  simp [go_sem]
  by_cases h0 : x0 = y0 <;> by_cases h1 : x1 = y1 <;> simp [*]
theorem goodSx : GoodKey Tryz.prog 217 ekSx := by
  refine GoodKey.of_struct Tryz.underlying217 (fun b k w => chkSx_run 9998 b k w) (fun a b w => ?_) (fun k => ?_) (fun a b h => ?_)
  · show (Op.equalIn 10000 217 (.agg #[I a.1, bv a.2]) (.agg #[I b.1, bv b.2])).run Tryz.prog w = _
    rw [eqSx]
    congr 1
    refine decide_eq_decide.2 ⟨fun h => Prod.ext_iff.2 ⟨h.1, BitVec.eq_of_toNat_eq (by omega)⟩, fun h => by rw [h]; exact ⟨rfl, rfl⟩⟩
  · show Instr.sameBits (9999 + 1) _ _ = true
    simp [ekSx, Instr.sameBits]
  · simp [ekSx] at h
    exact Prod.ext_iff.2 ⟨h.1, BitVec.eq_of_toNat_eq (by omega)⟩
end Go.Proofs.YthpkgabckklojaaGreat.Rk

/- Rack: all that can be left: what goes on from a row. -/
namespace Go.Proofs.YthpkgabckklojaaGreat.Rk
open Go.RowKit Go.Shelf

def ekU (n : Int) : Value := .int .u16 n
theorem chkU_run {P : Program} {K : TypeId} (hK : P.underlying K = some (.int .u16)) (n : Nat) (b : Bool) (k : Int) (w : World) : (Instr.checkKey b (n + 1) K (ekU k)).run P w = .ok () w := by
  unfold ekU
  simp [Instr.checkKey, Sem.run_bind, run_underlying hK, Result.andThen]
theorem goodU {P : Program} {K : TypeId} (hK : P.underlying K = some (.int .u16)) : GoodKey P K ekU := by
  refine ⟨fun b k w => ?_, fun k es w h => ?_, fun k => ?_, fun a b h => ?_⟩
  · exact chkU_run hK 9999 b k w
  · have key : ∀ (es : List MapEntry) (i : Nat), (∀ e ∈ es, ∃ k', e.key = ekU k') → ∃ r, Instr.findNow (.int .u16) (ekU k) es i = some r ∧ ((r = none ∧ ∀ e ∈ es, e.key ≠ ekU k) ∨ ∃ j e, r = some (i + j, e.val) ∧ es[j]? = some e ∧ e.key = ekU k) := by
      intro es
      induction es with
      | nil => intro i _; exact ⟨none, rfl, .inl ⟨rfl, by simp⟩⟩
      | cons e es ih =>
        intro i h
        obtain ⟨k', hk'⟩ := h e (by simp)
        by_cases hkk : k = k'
        · subst hkk
          exact ⟨some (i, e.val), by simp [Instr.findNow, Instr.sameNow, hk', ekU], .inr ⟨0, e, by simp, by simp, hk'⟩⟩
        · obtain ⟨r, hr, hc⟩ := ih (i + 1) fun x hx => h x (by simp [hx])
          have e0 : (k == k') = false := by simpa using hkk
          refine ⟨r, by simp only [ekU] at hr; simp [Instr.findNow, Instr.sameNow, hk', ekU, e0, hr], ?_⟩
          rcases hc with ⟨h1, h2⟩ | ⟨j, x, h1, h2, h3⟩
          · refine .inl ⟨h1, fun x hx => ?_⟩
            rcases List.mem_cons.1 hx with rfl | hx
            · rw [hk']; intro e'; simp [ekU] at e'; exact hkk e'.symm
            · exact h2 x hx
          · exact .inr ⟨j + 1, x, by rw [h1]; congr 2; omega, by simpa using h2, h3⟩
    obtain ⟨r, hr, hc⟩ := key es 0 h
    refine ⟨r, ?_, by simpa using hc⟩
    simp [Instr.findKey, Sem.run_bind, run_underlying hK, hr]
  · simp [ekU, Instr.sameBits]
  · simpa [ekU] using h
theorem goodB {P : Program} {K : TypeId} (hK : P.underlying K = some (.int .u16)) : GoodKey P K ekB := by
  have G := goodU hK
  refine ⟨fun b k w => G.check b (k.toNat : Int) w, fun k es w h => G.find (k.toNat : Int) es w (fun e he => ?_), fun k => G.bits (k.toNat : Int), fun a b h => ekB_inj h⟩
  obtain ⟨k', hk'⟩ := h e he
  exact ⟨(k'.toNat : Int), hk'⟩
/-- From a row on, all that can be left is told. -/
def DoneO (r : Rk) (S : BS) (ball : List Rg) (o : BS → Option Bool) : Nat → Nat → BS → Prop
  | 0, _, s => ∀ bits, bits < 2 ^ r.ls.length → IdP r.ls bits → ∀ R, IsFl r.ls S s (someC bits) R → o (S &&& ~~~ R) = some true
  | k + 1, row, s => ∀ (h : row < ball.length), ∀ n ∈ bdL ball[row], DoneO r S ball o k (row + 1) (s ||| tch r S row n)
theorem DoneO.mono {r : Rk} {S : BS} {ball : List Rg} {o o' : BS → Option Bool} (h : ∀ x, o x = some true → o' x = some true) : ∀ {k row : Nat} {s : BS}, DoneO r S ball o k row s → DoneO r S ball o' k row s
  | 0, _, _, hd => fun bits hb hi R hR => h _ (hd bits hb hi R hR)
  | _ + 1, _, _, hd => fun hr n hn => (hd hr n hn).mono h
structure FromOk (r : Rk) (S : BS) (ball : List Rg) (row : Nat) (s : BS) (sn : Sx → Option Bool) (o : BS → Option Bool) (p : (Sx → Option Bool) × (BS → Option Bool)) : Prop where
  mono : ∀ x, o x = some true → p.2 x = some true
  monoS : ∀ x, sn x = some true → p.1 x = some true
  done : ∀ (row' k' : Nat) s', p.1 ((row' : Int), s') = some true → row ≤ row' → row' + k' = ball.length → DoneO r S ball p.2 k' row' s'
  has : p.1 ((row : Int), s) = some true
  low : ∀ (row' : Nat) s', row' < row → p.1 ((row' : Int), s') = some true → sn ((row' : Int), s') = some true
theorem upd_get {κ : Type} [DecidableEq κ] {m : κ → Option Bool} {k x : κ} : upd m k true x = some true ↔ x = k ∨ m x = some true := by
  unfold upd
  split
  · rename_i h; simp [h]
  · rename_i h; simp [h]
abbrev fLv (sb bb hb ob fb : Nat) : Value := .func (.func 108) #[] #[.pointer (some ⟨sb, 0, none⟩), .pointer (some ⟨bb, 0, none⟩), .pointer (some ⟨hb, 0, none⟩), .pointer (some ⟨ob, 0, none⟩), .pointer (some ⟨fb, 0, none⟩)]
abbrev KLv (r : Rk) (a : Option Addr) (c : Nat) (S : BS) (ba : Option Addr) (bc : Nat) (ball : List Rg) (ms mo sb bb hb ob fb : Nat) : World → Prop := KAnd (KBox sb [.map (some ms)]) (KAnd (KBox bb [.slice ba ball.length bc]) (KAnd (KBox hb (cHt r a c S)) (KAnd (KBox ob [.map (some mo)]) (KAnd (KBox fb [fLv sb bb hb ob fb]) (KAnd (KRk r a c) (KSl ba ball.length bc encRg ball))))))
theorem ht3 {H D : List Chunk} {c1 c2 c3 : Chunk} {H1 H2 : List Chunk} [h1 : Pick H c1 H1] [h2 : Pick H1 c2 H2] [h3 : Pick H2 c3 D] : H.Perm ([c1, c2, c3] ++ D) := ht_cons (ht_cons (ht_cons ht_nil))
set_option maxRecDepth 100000 in
set_option maxHeartbeats 4000000 in
theorem from_j (r : Rk) (a : Option Addr) (c : Nat) (S : BS) (V : VR r) (ba : Option Addr) (bc : Nat) (ball : List Rg) (hB : VB r ball) (ms mo sb bb hb ob fb : Nat) : ∀ (k row : Nat) (hk : row + k = ball.length) (s : BS) (sn : Sx → Option Bool) (o : BS → Option Bool), (∀ (row' k' : Nat) s', sn ((row' : Int), s') = some true → row ≤ row' → row' + k' = ball.length → DoneO r S ball o k' row' s') →
    Cx Tryz.prog 108 [.agg #[I row, bv s], .pointer (some ⟨sb, 0, none⟩), .pointer (some ⟨bb, 0, none⟩), .pointer (some ⟨hb, 0, none⟩), .pointer (some ⟨ob, 0, none⟩), .pointer (some ⟨fb, 0, none⟩)] [mp ms ekSx vB sn, mp mo ekB vB o] (KLv r a c S ba bc ball ms mo sb bb hb ob fb)
      (fun _ : {p : (Sx → Option Bool) × (BS → Option Bool) // FromOk r S ball row s sn o p} => .tuple #[]) (fun p => [mp ms ekSx vB p.1.1, mp mo ekB vB p.1.2]) (fun _ => KTrue) := by
  intro k
  induction k with
  | zero =>
    intro row hk s sn o hpre
    have hn := V.n
    have hBn := hB.n
    have r1 := V.r1
    have h12 : 2 ^ r.ls.length ≤ 2 ^ 12 := Nat.pow_le_pow_right (by decide) hn
    refine Cx_of Tryz.func108 rfl Tryz.ntmps108 rfl fun w0 M0 => ?_
    refine JC_seq ?_
    refine JC_region ?_
    refine JL_step rfl rfl rfl (jo_box rfl rfl) fun b6 => ?_
    refine JL_nil ?_
    refine JE_seq ?_
    refine JC_seq ?_
    refine JC_seq ?_
    refine JC_region ?_
    refine JL_dt rfl (det_loadK rfl Tryz.isAgg214 rfl) ?_
    refine JL_dt rfl (det_loadKA rfl Tryz.isAgg217 Tryz.sizeOf217 rfl rfl) ?_
    refine JL_dt rfl (det_lookup1B (ek := ekSx) ((row : Int), s) rfl rfl goodSx Tryz.underlying214 Tryz.zeroValue4) ?_
    refine JL_nil ?_
    refine JE_seq ?_
    -- stop: cond
    refine JC_cond rfl (fun h1 => ?_) (fun h1 => ?_)
    · have h2 : sn ((row : Int), s) = some true := by
        cases hq : sn ((row : Int), s) with
        | none => rw [hq] at h1; cases h1
        | some b => rw [hq] at h1; exact congrArg some h1
      refine JC_ret ?_
      refine JE_seq_ret ?_
      -- stop: out
      refine JE_out (.inl rfl) ⟨(sn, o), ⟨fun _ h => h, fun _ h => h, hpre, h2, fun _ _ _ h => h⟩⟩ (results0 Tryz.results108 ) rfl ht2 (fun _ _ => trivial)
    · refine JC_skip ?_
      refine JE_seq ?_
      refine JC_seq ?_
      refine JC_region ?_
      refine JL_dt rfl (det_loadK rfl Tryz.isAgg214 rfl) ?_
      refine JL_dt rfl (det_loadKA rfl Tryz.isAgg217 Tryz.sizeOf217 rfl rfl) ?_
      refine JL_step0 rfl rfl (jo_mapUpdate (ek := ekSx) (ev := vB) ((row : Int), s) true (.inl rfl) rfl rfl rfl goodSx Tryz.underlying214) fun _ => ?_
      refine JL_nil ?_
      refine JE_seq ?_
      refine JC_seq ?_
      refine JC_seq ?_
      refine JC_region ?_
      refine JL_pd rfl (det_fieldAddr rfl fo_217_0) ?_
      refine JL_dt rfl (det_loadK rfl Tryz.isAgg3 rfl) ?_
      refine JL_dt rfl (det_loadK rfl Tryz.isAgg67 rfl) ?_
      refine JL_pd rfl (det_len rfl Tryz.runUnderlying67) ?_
      refine JL_pd rfl (det_eql rfl rfl) ?_
      refine JL_nil ?_
      refine JE_seq ?_
      -- stop: cond
      refine JC_cond rfl (fun h3 => ?_) (fun h3 => ?_)
      · skip
        refine JC_seq ?_
        refine JC_seq ?_
        refine JC_region ?_
        refine JL_pd rfl (det_fieldAddr rfl fo_136_0) ?_
        refine JL_pd rfl (det_fieldAddr rfl fo_65_4) ?_
        refine JL_dt rfl (det_loadK rfl Tryz.isAgg63 rfl) ?_
        refine JL_pd rfl (det_len rfl Tryz.runUnderlying63) ?_
        refine JL_pd rfl (det_shlR ((2 ^ r.ls.length : Nat) : Int) rfl rfl (by omega) (shl64 (by omega))) ?_
        refine JL_pd rfl (det_move rfl) ?_
        refine JL_nil ?_
        refine JE_seq ?_
        refine JC_block ?_
        -- stop: loop
        refine JC_loopF (γ := Nat × (BS → Option Bool)) (fun q => q.1 ≤ 2 ^ r.ls.length ∧ (∀ x, o x = some true → q.2 x = some true) ∧ ∀ bits, bits < q.1 → IdP r.ls bits → ∀ R, IsFl r.ls S s (someC bits) R → q.2 (S &&& ~~~ R) = some true) (fun q => [(24, I q.1)]) (fun q => [mp mo ekB vB q.2]) (fun q => 2 ^ r.ls.length - q.1) (0, o) ⟨Nat.zero_le _, fun _ h => h, fun bits hb => absurd hb (Nat.not_lt_zero bits)⟩ (stsub_consI rfl rfl stsub_nil) (ht_cons ht_nil) ?_
        rintro ⟨i, o1⟩ ⟨hi, ho1, ho2⟩ K hK
        dsimp only [List.cons_append, List.nil_append] at hi ho1 ho2 ⊢
        refine JC_seq ?_
        refine JC_region ?_
        refine JL_pd rfl (det_lss rfl rfl) ?_
        refine JL_nil ?_
        refine JE_seq ?_
        refine JC_seq ?_
        -- stop: cond
        refine JC_if rfl (fun h4 => ?_) (fun h4 => ?_)
        · have hi2 : i < 2 ^ r.ls.length := by omega
          have hnx : ∀ o2 : BS → Option Bool, (∀ x, o1 x = some true → o2 x = some true) → (IdP r.ls i → ∀ R, IsFl r.ls S s (someC i) R → o2 (S &&& ~~~ R) = some true) → ∀ bits, bits < i + 1 → IdP r.ls bits → ∀ R, IsFl r.ls S s (someC bits) R → o2 (S &&& ~~~ R) = some true := fun o2 q1 q2 bits hb hid R hR => by
            by_cases e : bits = i
            · subst e; exact q2 hid R hR
            · exact q1 _ (ho2 bits (by omega) hid R hR)
          refine JC_skip ?_
          refine JE_seq ?_
          refine JC_seq ?_
          refine JC_block ?_
          refine JC_seq ?_
          refine JC_region ?_
          refine JL_pd rfl (det_move rfl) ?_
          refine JL_pd rfl (det_assign rfl) ?_
          refine JL_nil ?_
          refine JE_seq ?_
          refine JC_seq ?_
          refine JC_region ?_
          refine JL_dt rfl (det_loadKA rfl Tryz.isAgg136 Tryz.sizeOf136 rfl rfl) ?_
          refine JL_pd rfl (det_move rfl) ?_
          refine JL_step rfl rfl rfl (jo_call rfl rfl Tryz.call109 rfl (idle_j r a c S V i (by omega))) fun x29 => ?_
          refine JL_nil ?_
          refine JE_seq ?_
          -- stop: cond
          refine JC_cond rfl (fun h5 => ?_) (fun h5 => ?_)
          · skip
            refine JC_draw [10] (by kernel_rfl) ?_
            refine JA_dt (i := 0) rfl (by kernel_rfl) (by kernel_rfl) rfl rfl (det_loadK rfl Tryz.isAgg152 rfl) ?_
            refine JA_pd (i := 1) rfl (by kernel_rfl) rfl rfl (det_fieldAddr rfl fo_136_1) ?_
            refine JA_dt (i := 2) rfl (by kernel_rfl) (by kernel_rfl) rfl rfl (det_loadK rfl Tryz.isAgg134 rfl) ?_
            refine JA_dt (i := 3) rfl (by kernel_rfl) (by kernel_rfl) rfl rfl (det_loadKA rfl Tryz.isAgg136 Tryz.sizeOf136 rfl rfl) ?_
            refine JA_pd (i := 4) rfl (by kernel_rfl) rfl rfl (det_fieldAddr rfl fo_217_1) ?_
            refine JA_dt (i := 5) rfl (by kernel_rfl) (by kernel_rfl) rfl rfl (det_loadK rfl Tryz.isAgg134 rfl) ?_
            refine JA_pd (i := 6) rfl (by kernel_rfl) rfl rfl (det_build rfl (bld_146_0 _ _ _)) ?_
            refine JA_pd (i := 7) rfl (by kernel_rfl) rfl rfl (det_move rfl) ?_
            refine JA_one (i := 8) (by kernel_rfl) rfl rfl (jo_call rfl rfl Tryz.call63 rfl (falls_j r a c S V 60 Tryz.call60 (i : Int) (someC i) (fun k l hk => some_j l k i hk (by omega)) s)) (fun _ => ⟨hsub_drop 0 rfl, fun _ h => h.2⟩) fun x38 => ?_
            refine JA_pd (i := 9) rfl (by kernel_rfl) rfl rfl (det_anS _ _ rfl rfl) ?_
            refine JA_tail (i := 10) (by kernel_rfl) rfl rfl rfl rfl (jo_mapUpdate (ek := ekB) (ev := vB) (S &&& ~~~ x38.1) true (.inl rfl) rfl rfl rfl (goodB Tryz.underlying134) Tryz.underlying152) fun _ => ?_
            refine JT_done (by kernel_rfl) ?_
            refine JE_block ?_
            refine JE_seq ?_
            refine JC_region ?_
            refine JL_pd rfl (det_add rfl rfl ⟨by omega, by omega⟩) ?_
            refine JL_pd rfl (det_move rfl) ?_
            refine JL_nil ?_
            -- stop: end
            refine JE_roundF hK (i + 1, upd o1 (S &&& ~~~ x38.1) true) ⟨by simp only; omega, fun x h => upd_get.2 (.inr (ho1 x h)), hnx _ (fun x h => upd_get.2 (.inr h)) fun _ R hR => upd_get.2 (.inl (by rw [hR.uniq x38.2]))⟩ (by simp only; omega) (stsub_consI rfl (by simp only; omega) stsub_nil) (ht_cons ht_nil)
          · refine JC_skip ?_
            refine JE_block ?_
            refine JE_seq ?_
            refine JC_region ?_
            refine JL_pd rfl (det_add rfl rfl ⟨by omega, by omega⟩) ?_
            refine JL_pd rfl (det_move rfl) ?_
            refine JL_nil ?_
            -- stop: end
            refine JE_roundF hK (i + 1, o1) ⟨by simp only; omega, ho1, hnx _ (fun _ h => h) fun hid => by rw [x29.2 hid] at h5; cases h5⟩ (by simp only; omega) (stsub_consI rfl (by simp only; omega) stsub_nil) (ht_cons ht_nil)
        · obtain rfl : i = 2 ^ r.ls.length := by omega
          refine JC_exit ?_
          refine JE_seq_exit ?_
          refine JE_then_exit ?_
          refine JE_block_here ?_
          refine JE_seq ?_
          refine JC_ret ?_
          refine JE_seq_ret ?_
          -- stop: out
          refine JE_out (.inl rfl) ⟨(upd sn ((row : Int), s) true, o1), ⟨ho1, fun x h => upd_get.2 (.inr h), fun row' k' s' h hr hk' => ?_, upd_get.2 (.inl rfl), fun row' s' hr h => ?_⟩⟩ (results0 Tryz.results108 ) rfl ht2 (fun _ _ => trivial)
          · rcases upd_get.1 h with e | e
            · obtain rfl : k' = 0 := by omega
              have e2 : s' = s := (Prod.ext_iff.1 e).2
              rw [e2]
              exact ho2
            · exact (hpre row' k' s' e hr hk').mono ho1
          · rcases upd_get.1 h with e | e
            · have e1 : (row' : Int) = (row : Int) := (Prod.ext_iff.1 e).1
              omega
            · exact e
      · exact absurd h3 (by simp; omega)
  | succ k IH =>
    intro row hk s sn o hpre
    have hn := V.n
    have hBn := hB.n
    have r1 := V.r1
    have h12 : 2 ^ r.ls.length ≤ 2 ^ 12 := Nat.pow_le_pow_right (by decide) hn
    refine Cx_of Tryz.func108 rfl Tryz.ntmps108 rfl fun w0 M0 => ?_
    refine JC_seq ?_
    refine JC_region ?_
    refine JL_step rfl rfl rfl (jo_box rfl rfl) fun b6 => ?_
    refine JL_nil ?_
    refine JE_seq ?_
    refine JC_seq ?_
    refine JC_seq ?_
    refine JC_region ?_
    refine JL_dt rfl (det_loadK rfl Tryz.isAgg214 rfl) ?_
    refine JL_dt rfl (det_loadKA rfl Tryz.isAgg217 Tryz.sizeOf217 rfl rfl) ?_
    refine JL_dt rfl (det_lookup1B (ek := ekSx) ((row : Int), s) rfl rfl goodSx Tryz.underlying214 Tryz.zeroValue4) ?_
    refine JL_nil ?_
    refine JE_seq ?_
    -- stop: cond
    refine JC_cond rfl (fun h1 => ?_) (fun h1 => ?_)
    · have h2 : sn ((row : Int), s) = some true := by
        cases hq : sn ((row : Int), s) with
        | none => rw [hq] at h1; cases h1
        | some b => rw [hq] at h1; exact congrArg some h1
      refine JC_ret ?_
      refine JE_seq_ret ?_
      -- stop: out
      refine JE_out (.inl rfl) ⟨(sn, o), ⟨fun _ h => h, fun _ h => h, hpre, h2, fun _ _ _ h => h⟩⟩ (results0 Tryz.results108 ) rfl ht2 (fun _ _ => trivial)
    · refine JC_skip ?_
      refine JE_seq ?_
      refine JC_seq ?_
      refine JC_region ?_
      refine JL_dt rfl (det_loadK rfl Tryz.isAgg214 rfl) ?_
      refine JL_dt rfl (det_loadKA rfl Tryz.isAgg217 Tryz.sizeOf217 rfl rfl) ?_
      refine JL_step0 rfl rfl (jo_mapUpdate (ek := ekSx) (ev := vB) ((row : Int), s) true (.inl rfl) rfl rfl rfl goodSx Tryz.underlying214) fun _ => ?_
      refine JL_nil ?_
      refine JE_seq ?_
      refine JC_seq ?_
      refine JC_seq ?_
      refine JC_region ?_
      refine JL_pd rfl (det_fieldAddr rfl fo_217_0) ?_
      refine JL_dt rfl (det_loadK rfl Tryz.isAgg3 rfl) ?_
      refine JL_dt rfl (det_loadK rfl Tryz.isAgg67 rfl) ?_
      refine JL_pd rfl (det_len rfl Tryz.runUnderlying67) ?_
      refine JL_pd rfl (det_eql rfl rfl) ?_
      refine JL_nil ?_
      refine JE_seq ?_
      -- stop: cond
      refine JC_cond rfl (fun h3 => ?_) (fun h3 => ?_)
      · exact absurd h3 (by simp; omega)
      have hrow : row < ball.length := by omega
      have hbr := hB.b _ (List.getElem_mem hrow)
      refine JC_skip ?_
      refine JE_seq ?_
      refine JC_seq ?_
      refine JC_draw [] (by kernel_rfl) ?_
      refine JA_dt (i := 0) rfl (by kernel_rfl) (by kernel_rfl) rfl rfl (det_loadKA rfl Tryz.isAgg136 Tryz.sizeOf136 rfl rfl) ?_
      refine JA_pd (i := 1) rfl (by kernel_rfl) rfl rfl (det_fieldAddr rfl fo_217_0) ?_
      refine JA_dt (i := 2) rfl (by kernel_rfl) (by kernel_rfl) rfl rfl (det_loadK rfl Tryz.isAgg3 rfl) ?_
      refine JA_dt (i := 3) rfl (by kernel_rfl) (by kernel_rfl) rfl rfl (det_loadK rfl Tryz.isAgg67 rfl) ?_
      refine JA_pd (i := 4) rfl (by kernel_rfl) rfl rfl (det_fieldAddr rfl fo_217_0) ?_
      refine JA_dt (i := 5) rfl (by kernel_rfl) (by kernel_rfl) rfl rfl (det_loadK rfl Tryz.isAgg3 rfl) ?_
      refine JA_dt (i := 6) rfl (by kernel_rfl) (by kernel_rfl) rfl rfl (det_indexAddr (n := ball.length) (i := row) rfl rfl rfl hrow Tryz.runUnderlying67 Tryz.sizeOf71) ?_
      refine JA_dt (i := 7) rfl (by kernel_rfl) (by kernel_rfl) rfl rfl (det_loadEA rfl (by first | assumption | omega | decide) Tryz.isAgg71 Tryz.sizeOf71 rfl rfl rfl) ?_
      refine JA_one (i := 8) (by kernel_rfl) rfl rfl (jo_call rfl rfl Tryz.call62 rfl (each_j r a c S (row : Int) ball[row])) (fun _ => ⟨hsub_drop 0 rfl, fun _ h => h.2⟩) fun x49 => ?_
      refine JA_done (by kernel_rfl) ?_
      refine JE_seq ?_
      refine JC_block ?_
      -- stop: rangeFunc
      have hit := each_it r a c S V (row : Int) ball[row] hbr x49
      refine JC_rangeI (γ := (Sx → Option Bool) × (BS → Option Bool)) (β := Nat) rfl rfl rfl rfl Tryz.call107 hit (perm3 (mp ms ekSx vB (upd sn ((row : Int), s) true)) (mp mo ekB vB o) (bx b6 [I row, bv s])) (fun w _ h => h.1) (fun _ => rfl) ?_
        (fun p g => (∀ x, o x = some true → g.2 x = some true) ∧ (∀ x, upd sn ((row : Int), s) true x = some true → g.1 x = some true) ∧ (∀ (row' k' : Nat) s', g.1 ((row' : Int), s') = some true → row + 1 ≤ row' → row' + k' = ball.length → DoneO r S ball g.2 k' row' s') ∧ (∀ (row' : Nat) s', row' < row + 1 → g.1 ((row' : Int), s') = some true → upd sn ((row : Int), s) true ((row' : Int), s') = some true) ∧ ∀ n ∈ p, DoneO r S ball g.2 k (row + 1) (s ||| tch r S row n)) (fun _ _ _ => False) (fun g => [mp ms ekSx vB g.1, mp mo ekB vB g.2, bx b6 [I row, bv s]]) (upd sn ((row : Int), s) true, o) ⟨fun _ h => h, fun _ h => h, fun row' k' s' h h2 h3 => ?_, fun _ _ _ h => h, fun n hn => absurd hn List.not_mem_nil⟩ rfl
        (fun x t => [(8, bv (tch r S row x)), (6, pt b6), (1, pt sb), (2, pt bb), (3, pt hb), (4, pt ob), (5, pt fb)]) (fun _ _ => []) ?_ ?_ ?_ ?_
      · show ∀ p ∈ [50], p < 61
        decide
      · rcases upd_get.1 h with e | e
        · have e1 : (row' : Int) = (row : Int) := (Prod.ext_iff.1 e).1
          omega
        · exact hpre row' k' s' e (by omega) h3
      · intro l' x W K0 hK0
        refine JC_region ?_
        refine JL_pd rfl (det_assign rfl) ?_
        refine JL_nil ?_
        -- stop: end
        exact JE_asg (hK0 0) (stsub_cons rfl (stsub_cons rfl (stsub_cons rfl (stsub_cons rfl (stsub_cons rfl (stsub_cons rfl (stsub_cons rfl stsub_nil))))))) hsub_nil (fun _ h => trivial)
      · rintro l' p x ⟨g1, g2⟩ t W K1 QX ⟨i1, i2, i3, i4, i5⟩ hpx hK1 _
        dsimp only at i1 i2 i3 i4 i5 ⊢
        have hIH := IH (row + 1) (by omega) (s ||| tch r S row x) g1 g2 i3
        rw [show ((row + 1 : Nat) : Int) = (row : Int) + 1 by omega] at hIH
        refine JC_block ?_
        refine JC_region ?_
        refine JL_dt rfl (det_loadK rfl Tryz.isAgg215 rfl) ?_
        refine JL_pd rfl (det_fieldAddr rfl fo_217_0) ?_
        refine JL_dt rfl (det_loadK rfl Tryz.isAgg3 rfl) ?_
        refine JL_pd rfl (det_add rfl rfl ⟨by omega, by omega⟩) ?_
        refine JL_pd rfl (det_fieldAddr rfl fo_217_1) ?_
        refine JL_dt rfl (det_loadK rfl Tryz.isAgg134 rfl) ?_
        refine JL_pd rfl (det_move rfl) ?_
        refine JL_pd rfl (det_orS _ _ rfl rfl) ?_
        refine JL_pd rfl (det_build rfl (bld_217_0_1 _ _)) ?_
        -- stop: op  9 t60 := (call (Call (value t51) (t59) (217)))   <0 8>   169
        refine JL_step rfl rfl rfl (jo_callx rfl rfl Tryz.call108 rfl (hIH) (ht2)) fun w4 => ?_
        refine JL_nil ?_
        refine JE_block ?_
        -- stop: end
        refine JE_next (fun st' R' a' W' => hK1 (w4.1.1, w4.1.2) ⟨fun y h => w4.2.mono y (i1 y h), fun y h => w4.2.monoS y (i2 y h), w4.2.done, fun row' s' hr h => i4 row' s' hr (w4.2.low row' s' hr h), fun n hn => ?_⟩ st' R' a' W') (hsub_cons (hsub_cons (hsub_cons hsub_nil)))
        rcases List.mem_append.1 hn with hn | hn
        · exact (i5 n hn).mono w4.2.mono
        · rw [List.mem_singleton.1 hn]
          exact w4.2.done (row + 1) k _ w4.2.has (Nat.le_refl _) (by omega)
      · rintro ⟨g1, g2⟩ ⟨i1, i2, i3, i4, i5⟩
        dsimp only at i1 i2 i3 i4 i5 ⊢
        refine JE_block ?_
        -- stop: out
        refine JE_out (.inr rfl) ⟨(g1, g2), ⟨i1, fun x h => i2 x (upd_get.2 (.inr h)), fun row' k' s' h hr hk' => ?_, i2 _ (upd_get.2 (.inl rfl)), fun row' s' hr h => ?_⟩⟩ (results0 Tryz.results108 ) rfl ht2 (fun _ _ => trivial)
        · by_cases e : row' = row
          · subst e
            obtain rfl : k' = k + 1 := by omega
            rcases upd_get.1 (i4 row' s' (by omega) h) with e | e
            · have e2 : s' = s := (Prod.ext_iff.1 e).2
              rw [e2]
              exact fun _ n hn => i5 n hn
            · exact (hpre row' (k + 1) s' e hr hk').mono i1
          · exact i3 row' k' s' h (by omega) hk'
        · rcases upd_get.1 (i4 row' s' (by omega) h) with e | e
          · have e1 : (row' : Int) = (row : Int) := (Prod.ext_iff.1 e).1
            omega
          · exact e
      · rintro cd p q _ h
        exact h.elim
set_option maxRecDepth 100000 in
set_option maxHeartbeats 2000000 in
theorem leaves_j (r : Rk) (a : Option Addr) (c : Nat) (S : BS) (V : VR r) (ba : Option Addr) (bc : Nat) (ball : List Rg) (hB : VB r ball) : Cx Tryz.prog 66 [vHt r a c S, .slice ba ball.length bc] [] (KAnd (KRk r a c) (KSl ba ball.length bc encRg ball)) (fun q : {q : Nat × (BS → Option Bool) // DoneO r S ball q.2 ball.length 0 0#16} => .map (some q.1.1)) (fun q => [mp q.1.1 ekB vB q.1.2]) (fun _ => KTrue) := by
  refine Cx_of Tryz.func66 rfl Tryz.ntmps66 rfl fun w0 M0 => ?_
  refine JC_seq ?_
  refine JC_region ?_
  refine JL_step rfl rfl rfl (jo_box rfl rfl) fun b2 => ?_
  refine JL_step rfl rfl rfl (jo_box rfl rfl) fun b3 => ?_
  refine JL_pd rfl (det_assign rfl) ?_
  refine JL_nil ?_
  refine JE_seq ?_
  refine JC_seq ?_
  refine JC_region ?_
  refine JL_step rfl rfl rfl (jo_makeMap ekB vB) fun b8 => ?_
  refine JL_step rfl rfl rfl (jo_alloc0 Tryz.zeroValue152 rfl) fun b5 => ?_
  refine JL_step0 rfl rfl (jo_store rfl rfl rfl (by first | (simp only [splice_norm]; done) | (simp only [splice_norm]; rfl) | rfl) Tryz.sizeOf152 rfl rfl) fun _ => ?_
  refine JL_nil ?_
  refine JE_seq ?_
  refine JC_seq ?_
  refine JC_region ?_
  refine JL_step rfl rfl rfl (jo_makeMap ekSx vB) fun b9 => ?_
  refine JL_step rfl rfl rfl (jo_alloc0 Tryz.zeroValue214 rfl) fun b6 => ?_
  refine JL_step0 rfl rfl (jo_store rfl rfl rfl (by first | (simp only [splice_norm]; done) | (simp only [splice_norm]; rfl) | rfl) Tryz.sizeOf214 rfl rfl) fun _ => ?_
  refine JL_nil ?_
  refine JE_seq ?_
  refine JC_seq ?_
  refine JC_region ?_
  refine JL_step rfl rfl rfl (jo_alloc0 Tryz.zeroValue215 rfl) fun b7 => ?_
  refine JL_nil ?_
  refine JE_seq ?_
  refine JC_seq ?_
  refine JC_region ?_
  refine JL_pd rfl (det_makeFuncE rfl rfl) ?_
  refine JL_step0 rfl rfl (jo_store rfl rfl rfl (by first | (simp only [splice_norm]; done) | (simp only [splice_norm]; rfl) | rfl) Tryz.sizeOf215 rfl rfl) fun _ => ?_
  refine JL_nil ?_
  refine JE_seq ?_
  refine JC_seq ?_
  refine JC_region ?_
  refine JL_dt rfl (det_loadK rfl Tryz.isAgg215 rfl) ?_
  refine JL_pd rfl (det_build rfl (bld_217)) ?_
  -- stop: op  2 t13 := (call (Call (value t11) (t12) (217)))   <0 1>   172
  refine JL_keep b2 noFp (JL_keep b3 noFp (JL_keep b5 noFp (JL_keep b6 noFp (JL_keep b7 noFp ?_))))
  have hfr := from_j r a c S V ba bc ball hB b9 b8 b6 b3 b2 b5 b7 ball.length 0 (by omega) 0#16 (fun _ => none) (fun _ => none) (fun _ _ _ h => by cases h)
  refine JL_step rfl rfl rfl (jo_callx rfl rfl Tryz.call108 rfl (hfr) (ht2)) fun u => ?_
  refine JL_nil ?_
  refine JE_seq ?_
  refine JC_seq ?_
  refine JC_region ?_
  refine JL_dt rfl (det_loadK rfl Tryz.isAgg152 rfl) ?_
  refine JL_pd rfl (det_assign rfl) ?_
  refine JL_nil ?_
  refine JE_seq ?_
  refine JC_ret ?_
  -- stop: out
  refine JE_out (.inl rfl) ⟨(b8, u.1.2), u.2.done 0 ball.length 0#16 u.2.has (Nat.le_refl _) (by omega)⟩ (results1 Tryz.results66 (res_tmp rfl)) rfl pick_perm (fun _ _ => trivial)
end Go.Proofs.YthpkgabckklojaaGreat.Rk
