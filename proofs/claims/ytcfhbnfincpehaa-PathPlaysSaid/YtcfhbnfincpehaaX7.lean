/- Play of path: the plain function, and the reference's walk. -/
import Derived.Test.YtcfhbnfincpehaaX6
namespace Go.Proofs.Ytcfhbnfincpehaa
open Go.RowKit Go.Shelf

/-- What a ball does, from a state on, by turns. -/
def playR (l : La) : List St → St → List Int → List St × Bool × Bool
  | out, _, [] => (out, false, decide ((out.length : Int) = l.rows))
  | out, s, t :: ts => if (out.length : Int) = l.rows then ([], false, false) else if inR t (hookOf l ((out.length : Int) - 1) s.b) = true then (if onL l (nextS s t) = true then playR l (out ++ [nextS s t]) (nextS s t) ts else (out, true, ts.isEmpty)) else ([], false, false)
theorem playR_nil (l : La) (out : List St) (s : St) : playR l out s [] = (out, false, decide ((out.length : Int) = l.rows)) := by unfold playR; rfl
theorem playR_full {l : La} {out : List St} (s : St) (t : Int) (ts : List Int) (h : (out.length : Int) = l.rows) : playR l out s (t :: ts) = ([], false, false) := by
  unfold playR; rw [if_pos h]
theorem playR_bad {l : La} {out : List St} {s : St} {t : Int} (ts : List Int) (h2 : inR t (hookOf l ((out.length : Int) - 1) s.b) = false) : playR l out s (t :: ts) = ([], false, false) := by
  unfold playR; split
  · rfl
  · rw [if_neg (by rw [h2]; decide)]
theorem playR_off {l : La} {out : List St} {s : St} {t : Int} (ts : List Int) (h : ¬ (out.length : Int) = l.rows) (h2 : inR t (hookOf l ((out.length : Int) - 1) s.b) = true) (h3 : onL l (nextS s t) = false) : playR l out s (t :: ts) = (out, true, ts.isEmpty) := by
  conv => lhs; unfold playR
  rw [if_neg h, if_pos h2, if_neg (by rw [h3]; decide)]
theorem playR_on {l : La} {out : List St} {s : St} {t : Int} (ts : List Int) (h : ¬ (out.length : Int) = l.rows) (h2 : inR t (hookOf l ((out.length : Int) - 1) s.b) = true) (h3 : onL l (nextS s t) = true) : playR l out s (t :: ts) = playR l (out ++ [nextS s t]) (nextS s t) ts := by
  conv => lhs; unfold playR
  rw [if_neg h, if_pos h2, if_pos h3]
theorem playR_len (l : La) : ∀ (ts : List Int) (out : List St) (s : St), (playR l out s ts).1.length ≤ out.length + ts.length := by
  intro ts
  induction ts with
  | nil => intro out s; rw [playR_nil]; simp
  | cons t ts ih =>
    intro out s
    conv => lhs; unfold playR
    split
    · simp
    · split
      · split
        · have := ih (out ++ [nextS s t]) (nextS s t)
          simp at this ⊢; omega
        · simp
      · simp
theorem drop_cons {α : Type} {l : List α} {i : Nat} (h : i < l.length) : l.drop i = l[i] :: l.drop (i + 1) := (List.getElem_cons_drop h).symm
theorem notT {b : Bool} (h : (!b) = true) : b = false := by simpa using h
/-- A ball's whole play. -/
def playV (l : La) (s : St) (turns : List Int) : List St × Bool × Bool := playR l [s] s turns

set_option maxRecDepth 100000 in
theorem rPlay_j (l : La) (s : St) (turns : List Int) (ha pa : Option Addr) (hc pc : Nat) (ta : Option Addr) (tc : Nat) (V : Valid l) (h0 : isStart l s = true) (ht : turns.length ≤ 1000000) :
    Cr Try.prog 44 [.agg #[I l.boards, I l.rows, .slice ha l.hooks.length hc, .slice pa l.patches.length pc], .agg #[I s.b, I s.d], .slice ta turns.length tc] (KAnd (KSl ta turns.length tc encI turns) (KLane l ha hc pa pc))
      (fun q : Option Addr × Nat => .tuple #[.slice q.1 (playV l s turns).1.length q.2, .bool (playV l s turns).2.1, .bool (playV l s turns).2.2]) (fun q => KSl q.1 (playV l s turns).1.length q.2 encSt (playV l s turns).1) := by
  have r1 := V.r1
  have r2 := V.r2
  have b2 := V.b2
  have sb : 1 ≤ s.b ∧ s.b ≤ l.boards ∧ -5 ≤ s.d ∧ s.d ≤ 5 := by simpa [isStart] using h0
  refine Cx_of Try.func44 rfl Try.ntmps44 rfl fun w0 M0 => ?_
  refine JC_seq ?_
  refine JC_region ?_
  refine JL_step rfl rfl rfl (jo_box rfl rfl) fun b3 => ?_
  refine JL_step rfl rfl rfl (jo_box rfl rfl) fun b4 => ?_
  refine JL_pd rfl (det_assign rfl) ?_
  refine JL_pd rfl (det_assign rfl) ?_
  refine JL_pd rfl (det_assign rfl) ?_
  refine JL_nil ?_
  refine JE_seq ?_
  refine JC_seq ?_
  refine JC_region ?_
  refine JL_dt rfl (det_loadKA rfl Try.isAgg27 Try.sizeOf27 rfl rfl) ?_
  refine JL_step rfl rfl rfl (jo_buildOwn (z := 2) rfl (bsl_43_1_0 _ _) rfl (by decide)) fun b13 => ?_
  refine JL_pd rfl (det_assign rfl) ?_
  refine JL_nil ?_
  refine JE_seq ?_
  refine JC_seq ?_
  refine JC_seq ?_
  refine JC_region ?_
  refine JL_pd rfl (det_assign rfl) ?_
  refine JL_nil ?_
  refine JE_seq ?_
  refine JC_block ?_
  -- stop: loop
  refine JC_loop (γ := Nat × List St × St × Nat × Nat) (I := fun q => q.1 ≤ turns.length ∧ playR l q.2.1 q.2.2.1 (turns.drop q.1) = playV l s turns ∧ 1 ≤ q.2.1.length ∧ (q.2.1.length : Int) ≤ l.rows ∧ (1 ≤ q.2.2.1.b ∧ q.2.2.1.b ≤ l.boards) ∧ -5 ≤ q.2.2.1.d ∧ q.2.2.1.d ≤ 5)
    (st' := fun q => [(10, I q.1), (9, .slice (some ⟨q.2.2.2.1, 0, none⟩) q.2.1.length q.2.2.2.2), (4, pt b4), (3, pt b3), (2, .slice ta turns.length tc)]) (H' := fun q => [ow (.slice (some ⟨q.2.2.2.1, 0, none⟩) q.2.1.length q.2.2.2.2) 27 2 q.2.1.length (q.2.1.flatMap encSt), bx b4 [I q.2.2.1.b, I q.2.2.1.d], bx b3 [I l.boards, I l.rows, .slice ha l.hooks.length hc, .slice pa l.patches.length pc]])
    (R' := fun _ => KAnd (KSl ta turns.length tc encI turns) (KLane l ha hc pa pc)) (μ := fun q => turns.length - q.1) (0, [s], s, b13, 1) ⟨by omega, rfl, by simp, by simpa using r1, ⟨sb.1, sb.2.1⟩, sb.2.2⟩
    (stsub_cons rfl (stsub_cons rfl (stsub_cons rfl (stsub_cons rfl (stsub_cons rfl stsub_nil))))) (show HSub _ [ow (.slice (some ⟨b13, 0, none⟩) 1 1) 27 2 1 [I s.b, I s.d], bx b4 _, bx b3 _] from (hsub_cons (hsub_cons (hsub_cons hsub_nil)))) Knows.know ?_
  rintro ⟨i, out, s', vb, vc⟩ ⟨hi, hp, hl1, hl2, hsb, hsd⟩ K hK
  dsimp only at hi hp hl1 hl2 hsb hsd ⊢
  refine JC_seq ?_
  refine JC_seq ?_
  refine JC_region ?_
  refine JL_pd rfl (det_move rfl) ?_
  refine JL_pd rfl (det_move rfl) ?_
  refine JL_pd rfl (det_len rfl Try.runUnderlying75) ?_
  refine JL_pd rfl (det_lss rfl rfl) ?_
  refine JL_nil ?_
  refine JE_seq ?_
  -- stop: cond
  refine JC_if rfl (fun h1 => ?_) (fun h1 => ?_)
  · have hi2 : i < turns.length := by omega
    rw [drop_cons hi2] at hp
    refine JC_skip ?_
    refine JE_seq ?_
    refine JC_seq ?_
    refine JC_block ?_
    refine JC_seq ?_
    refine JC_seq ?_
    refine JC_region ?_
    refine JL_pd rfl (det_move rfl) ?_
    refine JL_pd rfl (det_len rfl Try.runUnderlying43) ?_
    refine JL_pd rfl (det_fieldAddr rfl fo_25_1) ?_
    refine JL_dt rfl (det_loadK rfl Try.isAgg3 rfl) ?_
    refine JL_pd rfl (det_eql rfl rfl) ?_
    refine JL_nil ?_
    refine JE_seq ?_
    -- stop: cond
    refine JC_if rfl (fun h2 => ?_) (fun h2 => ?_)
    · have hr := playR_full s' turns[i] (turns.drop (i + 1)) h2
      rw [hp] at hr
      refine JC_seq ?_
      refine JC_region ?_
      refine JL_pd rfl (det_assign rfl) ?_
      refine JL_pd rfl (det_assign rfl) ?_
      refine JL_pd rfl (det_assign rfl) ?_
      refine JL_nil ?_
      refine JE_seq ?_
      refine JC_ret ?_
      refine JE_seq_ret ?_
      refine JE_block_ret ?_
      refine JE_seq_ret ?_
      refine JE_then_ret ?_
      refine JE_block_ret ?_
      refine JE_seq_ret ?_
      -- stop: out
      refine JE_out (.inl rfl) (none, 0) (results3 Try.results44 (res_tmp rfl) (res_tmp rfl) (res_tmp rfl)) (by rw [hr]; rfl) (List.Perm.refl _) (fun w _ => by rw [hr]; exact KSl_nil w)
    · refine JC_skip ?_
      refine JE_seq ?_
      refine JC_seq ?_
      refine JC_region ?_
      refine JL_dt rfl (det_loadKA rfl Try.isAgg25 Try.sizeOf25 rfl rfl) ?_
      refine JL_pd rfl (det_move rfl) ?_
      refine JL_pd rfl (det_len rfl Try.runUnderlying43) ?_
      refine JL_pd rfl (det_sub rfl rfl ⟨by omega, by omega⟩) ?_
      refine JL_pd rfl (det_fieldAddr rfl fo_27_0) ?_
      refine JL_dt rfl (det_loadK rfl Try.isAgg3 rfl) ?_
      -- stop: op  6 t31 := (call (Call (value f37) (t25 t28 t30) (25 3 3)))   <0 3 5>   82
      refine JL_step rfl rfl rfl (jo_callv rfl rfl Try.call37 rfl (rHook_j l (out.length - 1) s'.b ha pa hc pc V)) fun _ => ?_
      refine JL_step rfl rfl rfl (jo_alloc0 Try.zeroValue53 rfl) fun b11 => ?_
      refine JL_step0 rfl rfl (jo_store rfl rfl rfl (by first | (simp only [splice_norm]; done) | (simp only [splice_norm]; rfl) | rfl) Try.sizeOf53 rfl rfl) fun _ => ?_
      refine JL_nil ?_
      refine JE_seq ?_
      refine JC_seq ?_
      refine JC_seq ?_
      refine JC_draw [] (by kernel_rfl) ?_
      refine JA_pd (i := 0) rfl (by kernel_rfl) rfl rfl (det_move rfl) ?_
      refine JA_pd (i := 1) rfl (by kernel_rfl) rfl rfl (det_move rfl) ?_
      refine JA_dt (i := 2) rfl (by kernel_rfl) (by kernel_rfl) rfl rfl (det_indexAddr rfl rfl (by first | rfl | omega) (by first | assumption | omega | decide) Try.runUnderlying75 Try.sizeOf3) ?_
      refine JA_dt (i := 3) rfl (by kernel_rfl) (by kernel_rfl) rfl rfl (det_loadE rfl (by first | assumption | omega | decide) Try.isAgg3 rfl rfl) ?_
      refine JA_pd (i := 4) rfl (by kernel_rfl) rfl rfl (det_fieldAddr rfl fo_53_0) ?_
      refine JA_dt (i := 5) rfl (by kernel_rfl) (by kernel_rfl) rfl rfl (det_loadK rfl Try.isAgg3 rfl) ?_
      refine JA_pd (i := 6) rfl (by kernel_rfl) rfl rfl (det_fieldAddr rfl fo_53_1) ?_
      refine JA_dt (i := 7) rfl (by kernel_rfl) (by kernel_rfl) rfl rfl (det_loadK rfl Try.isAgg3 rfl) ?_
      -- stop: op  8 t40 := (call (Call (value f22) (t35 t37 t39) (3 3 3)))   <3 5 7>   83
      refine JA_one (i := 8) (by kernel_rfl) rfl rfl rfl (jo_callv rfl rfl Try.call22 rfl (rIn_j turns[i] (hookOf l (out.length - 1) s'.b).lo (hookOf l (out.length - 1) s'.b).hi)) (fun _ => ⟨hsub_refl, fun _ h => h⟩) fun _ => ?_
      refine JA_pd (i := 9) rfl (by kernel_rfl) rfl rfl (det_not rfl) ?_
      refine JA_done (by kernel_rfl) ?_
      refine JE_seq ?_
      -- stop: cond
      refine JC_cond rfl (fun h3 => ?_) (fun h3 => ?_)
      · have hr := playR_bad (out := out) (turns.drop (i + 1)) (notT (b := inR turns[i] (hookOf l ((out.length : Int) - 1) s'.b)) h3)
        rw [hp] at hr
        refine JC_seq ?_
        refine JC_region ?_
        refine JL_pd rfl (det_assign rfl) ?_
        refine JL_pd rfl (det_assign rfl) ?_
        refine JL_pd rfl (det_assign rfl) ?_
        refine JL_nil ?_
        refine JE_seq ?_
        refine JC_ret ?_
        refine JE_seq_ret ?_
        refine JE_block_ret ?_
        refine JE_seq_ret ?_
        refine JE_then_ret ?_
        refine JE_block_ret ?_
        refine JE_seq_ret ?_
        -- stop: out
        refine JE_out (.inl rfl) (none, 0) (results3 Try.results44 (res_tmp rfl) (res_tmp rfl) (res_tmp rfl)) (by rw [hr]; rfl) (List.Perm.refl _) (fun w _ => by rw [hr]; exact KSl_nil w)
      · have hin : inR turns[i] (hookOf l ((out.length : Int) - 1) s'.b) = true := by simpa [inR] using h3
        have hh := hookOf_bd V ((out.length : Int) - 1) s'.b
        have hin2 : (hookOf l ((out.length : Int) - 1) s'.b).lo ≤ turns[i] ∧ turns[i] ≤ (hookOf l ((out.length : Int) - 1) s'.b).hi := by simpa [inR] using hin
        refine JC_skip ?_
        refine JE_seq ?_
        refine JC_seq ?_
        refine JC_draw [6] (by kernel_rfl) ?_
        refine JA_dt (i := 0) rfl (by kernel_rfl) (by kernel_rfl) rfl rfl (det_loadKA rfl Try.isAgg27 Try.sizeOf27 rfl rfl) ?_
        refine JA_pd (i := 1) rfl (by kernel_rfl) rfl rfl (det_move rfl) ?_
        refine JA_pd (i := 2) rfl (by kernel_rfl) rfl rfl (det_move rfl) ?_
        refine JA_dt (i := 3) rfl (by kernel_rfl) (by kernel_rfl) rfl rfl (det_indexAddr rfl rfl (by first | rfl | omega) (by first | assumption | omega | decide) Try.runUnderlying75 Try.sizeOf3) ?_
        refine JA_dt (i := 4) rfl (by kernel_rfl) (by kernel_rfl) rfl rfl (det_loadE rfl (by first | assumption | omega | decide) Try.isAgg3 rfl rfl) ?_
        -- stop: op  5 t47 := (call (Call (value f38) (t42 t46) (27 3)))   <0 4>   86
        refine JA_one (i := 5) (by kernel_rfl) rfl rfl rfl (jo_callv rfl rfl Try.call38 rfl (rNext_j s' turns[i] hsd.1 hsd.2 (by omega) (by omega) (by omega) (by omega))) (fun _ => ⟨hsub_refl, fun _ h => h⟩) fun _ => ?_
        refine JA_tail (i := 6) (by kernel_rfl) rfl rfl rfl rfl rfl (jo_store rfl rfl rfl (by first | (simp only [splice_norm]; done) | (simp only [splice_norm]; rfl) | rfl) Try.sizeOf27 rfl rfl) fun _ => ?_
        refine JT_done (by kernel_rfl) ?_
        refine JE_seq ?_
        refine JC_seq ?_
        refine JC_seq ?_
        refine JC_region ?_
        refine JL_pd rfl (det_fieldAddr rfl fo_27_0) ?_
        refine JL_dt rfl (det_loadK rfl Try.isAgg3 rfl) ?_
        refine JL_pd rfl (det_fieldAddr rfl fo_25_0) ?_
        refine JL_dt rfl (det_loadK rfl Try.isAgg3 rfl) ?_
        -- stop: op  4 t52 := (call (Call (value f22) (t49 1 t51) (3 3 3)))   <1 3>   87
        refine JL_step rfl rfl rfl (jo_callv rfl rfl Try.call22 rfl (rIn_j (nextS s' turns[i]).b 1 l.boards)) fun _ => ?_
        refine JL_pd rfl (det_not rfl) ?_
        refine JL_nil ?_
        refine JE_seq ?_
        -- stop: cond
        refine JC_cond rfl (fun h4 => ?_) (fun h4 => ?_)
        · have hoff : onL l (nextS s' turns[i]) = false := notT (b := onL l (nextS s' turns[i])) h4
          have e2 : decide ((i : Int) = (turns.length : Int) - 1) = (turns.drop (i + 1)).isEmpty := by rw [Bool.eq_iff_iff]; simp; omega
          have hr := playR_off (turns.drop (i + 1)) h2 hin hoff
          rw [hp] at hr
          refine JC_seq ?_
          refine JC_region ?_
          refine JL_pd rfl (det_move rfl) ?_
          refine JL_pd rfl (det_move rfl) ?_
          refine JL_pd rfl (det_move rfl) ?_
          refine JL_pd rfl (det_len rfl Try.runUnderlying75) ?_
          refine JL_pd rfl (det_sub rfl rfl ⟨by omega, by omega⟩) ?_
          refine JL_pd rfl (det_eql rfl rfl) ?_
          refine JL_pd rfl (det_assign rfl) ?_
          refine JL_pd rfl (det_assign rfl) ?_
          refine JL_pd rfl (det_assign rfl) ?_
          refine JL_nil ?_
          refine JE_seq ?_
          refine JC_ret ?_
          refine JE_seq_ret ?_
          refine JE_block_ret ?_
          refine JE_seq_ret ?_
          refine JE_then_ret ?_
          refine JE_block_ret ?_
          refine JE_seq_ret ?_
          -- stop: out
          refine JE_slice (enc := encSt) (v := .slice (some ⟨vb, 0, none⟩) out.length vc) out noFp rfl rfl ?_
          rintro a cap h
          cases h
          refine JE_out (.inl rfl) (some ⟨vb, 0, none⟩, vc) (results3 Try.results44 (res_tmp rfl) (res_tmp rfl) (res_tmp rfl)) (by rw [hr, ← e2]) (List.Perm.refl _) (fun w h => by rw [hr]; exact h.1)
        · have hon : onL l (nextS s' turns[i]) = true := by simpa [onL] using h4
          have hr := playR_on (turns.drop (i + 1)) h2 hin hon
          rw [hp] at hr
          have hon2 : 1 ≤ (nextS s' turns[i]).b ∧ (nextS s' turns[i]).b ≤ l.boards := by simpa [onL] using hon
          refine JC_skip ?_
          refine JE_seq ?_
          refine JC_region ?_
          refine JL_pd rfl (det_move rfl) ?_
          refine JL_dt rfl (det_loadKA rfl Try.isAgg27 Try.sizeOf27 rfl rfl) ?_
          refine JL_step rfl rfl rfl (jo_buildSlice rfl (bsl_43_1_0 _ _)) fun b62 => ?_
          refine JL_step rfl rfl rfl (jo_append el_43 rfl rfl rfl rfl (by omega)) fun b63 => ?_
          refine JL_pd rfl (det_assign rfl) ?_
          refine JL_nil ?_
          refine JE_block ?_
          refine JE_seq ?_
          refine JC_region ?_
          refine JL_pd rfl (det_move rfl) ?_
          refine JL_pd rfl (det_add rfl rfl ⟨by omega, by omega⟩) ?_
          refine JL_pd rfl (det_assign rfl) ?_
          refine JL_nil ?_
          -- stop: end
          refine JE_round hK (i + 1, out ++ [nextS s' turns[i]], nextS s' turns[i], b63.1, b63.2) ⟨by omega, hr.symm, by simp, by simp; omega, hon2, nextS_d _ _⟩ (by simp only; omega) ?_ ?_ Knows.know
          · simp only [List.length_append, List.length_singleton]
            exact stsub_consI rfl (by omega) (stsub_cons rfl (stsub_cons rfl (stsub_cons rfl (stsub_cons rfl stsub_nil))))
          · simp only [List.length_append, List.length_singleton]
            exact hsub_ow rfl (by simp [encSt]) (hsub_cons (hsub_cons hsub_nil))
  · have hr : playV l s turns = (out, false, decide ((out.length : Int) = l.rows)) := by
      rw [← hp, List.drop_eq_nil_of_le (by omega), playR_nil]
    refine JC_slice (enc := encSt) (v := .slice (some ⟨vb, 0, none⟩) out.length vc) out noFp rfl rfl ?_
    rintro a cap h
    cases h
    refine JC_exit ?_
    refine JE_seq_exit ?_
    refine JE_then_exit ?_
    refine JE_block_here ?_
    refine JE_seq ?_
    refine JC_seq ?_
    refine JC_draw [] (by kernel_rfl) ?_
    refine JA_pd (i := 0) rfl (by kernel_rfl) rfl rfl (det_move rfl) ?_
    refine JA_pd (i := 1) rfl (by kernel_rfl) rfl rfl (det_move rfl) ?_
    refine JA_pd (i := 2) rfl (by kernel_rfl) rfl rfl (det_len rfl Try.runUnderlying43) ?_
    refine JA_pd (i := 3) rfl (by kernel_rfl) rfl rfl (det_fieldAddr rfl fo_25_1) ?_
    refine JA_dt (i := 4) rfl (by kernel_rfl) (by kernel_rfl) rfl rfl (det_loadK rfl Try.isAgg3 rfl) ?_
    refine JA_pd (i := 5) rfl (by kernel_rfl) rfl rfl (det_eql rfl rfl) ?_
    refine JA_pd (i := 6) rfl (by kernel_rfl) rfl rfl (det_assign rfl) ?_
    refine JA_pd (i := 7) rfl (by kernel_rfl) rfl rfl (det_assign rfl) ?_
    refine JA_pd (i := 8) rfl (by kernel_rfl) rfl rfl (det_assign rfl) ?_
    refine JA_done (by kernel_rfl) ?_
    refine JE_seq ?_
    refine JC_ret ?_
    -- stop: out
    refine JE_out (.inl rfl) (some ⟨vb, 0, none⟩, vc) (results3 Try.results44 (res_tmp rfl) (res_tmp rfl) (res_tmp rfl)) (by rw [hr]) (List.Perm.refl _) (fun w h => by rw [hr]; exact h.1)
end Go.Proofs.Ytcfhbnfincpehaa
