/- Walks of package path: aimed, aimers, Hits, Aims. -/
import Derived.Test.YtcfhbnfincpehaaW2
import Derived.Test.YtcfhbnfincpehaaPathM
namespace Go.Proofs.Ytcfhbnfincpehaa
open Go.RowKit Go.Shelf

abbrev ballNil : Value := .agg #[I 0, I 0, .slice none 0 0, .slice none 0 0, .slice none 0 0]
theorem started_je (l : La) (s : St) (ha pa : Option Addr) (hc pc : Nat) (he : startErr l s ≠ 0) : Cv Try.prog 56 [.agg #[I l.boards, I l.rows, .slice ha l.hooks.length hc, .slice pa l.patches.length pc], .agg #[I s.b, I s.d]] (KLane l ha hc pa pc) (.tuple #[ballNil, I (startErr l s)]) :=
  Cv_of fun w h => started_err l s ha pa hc pc w h.at_ he
theorem started_jo (l : La) (s : St) (ha pa : Option Addr) (hc pc : Nat) (he : startErr l s = 0) : Cr Try.prog 56 [.agg #[I l.boards, I l.rows, .slice ha l.hooks.length hc, .slice pa l.patches.length pc], .agg #[I s.b, I s.d]] (KLane l ha hc pa pc) (fun g : Nat => .tuple #[.agg #[I l.boards, I l.rows, .slice ha l.hooks.length hc, .slice pa l.patches.length pc, .slice (some ⟨g, 0, none⟩) l.rows.toNat l.rows.toNat], I 0]) (fun g => KBall l ha hc pa pc g) :=
  Cr_of fun w h => (started_ok l s ha pa hc pc w h.at_ he).mono fun e w' ⟨g, he, hg, hB, hb⟩ => ⟨g, he, hb, fun w2 h2 hz hn => by
    obtain ⟨h1, h3, cs, ⟨T, hx⟩, h4⟩ := hB
    exact ⟨h2.at_, h3, cs, ⟨T, (hn g hg (Array.getElem?_eq_some_iff.1 hx).1).trans hx⟩, h4⟩⟩
theorem aimers_j (l : La) (p : Pk) (ha pa : Option Addr) (hc pc g : Nat) :
    Cx Try.prog 73 [.agg #[I l.boards, I l.rows, .slice ha l.hooks.length hc, .slice pa l.patches.length pc, .slice (some ⟨g, 0, none⟩) l.rows.toNat l.rows.toNat], .agg #[I p.boards.lo, I p.boards.hi, I p.dirs.lo, I p.dirs.hi]] [] KTrue (fun q : (Nat × Nat) × Nat × Nat => .tuple #[pt q.1.1, pt q.1.2])
      (fun q => [mp q.2.1 ekSp vB (fun _ => none), mp q.2.2 ekSp vB (fun _ => none)]) (fun q => KAnd (KBox q.1.1 (aimCs l p ha hc pa pc g 91 q.2.1)) (KBox q.1.2 (aimCs l p ha hc pa pc g 92 q.2.2))) :=
  Cx_new fun w _ => (aimers_any l p ha pa hc pc g w).mono fun e w' ⟨A1, A2, m1, m2, he, hx1, hx2, hm1, hm2, n1, n2, n3, n4, hne, hb⟩ => ⟨((A1, A2), m1, m2), he, hb, fun c hc => by
      simp only [List.mem_cons, List.not_mem_nil, or_false] at hc
      rcases hc with rfl | rfl
      · exact ⟨mp_holds hm1, fun b hb => by cases hb; exact n3⟩
      · exact ⟨mp_holds hm2, fun b hb => by cases hb; exact n4⟩, by
      simp only [List.pairwise_cons, List.mem_singleton, List.not_mem_nil, false_implies, implies_true, List.Pairwise.nil, and_true]
      rintro c rfl b hb hb'
      cases hb; exact hne hb', fun w2 _ hz hn => ⟨by
        obtain ⟨T, hx⟩ := hx1
        refine ⟨T, (hn A1 n1 (Array.getElem?_eq_some_iff.1 hx).1 fun c hc hcb => ?_).trans hx⟩
        simp only [List.mem_cons, List.not_mem_nil, or_false] at hc
        rcases hc with rfl | rfl
        · cases hcb; exact hm1.no_box ⟨T, hx⟩ rfl
        · cases hcb; exact hm2.no_box ⟨T, hx⟩ rfl, by
        obtain ⟨T, hx⟩ := hx2
        refine ⟨T, (hn A2 n2 (Array.getElem?_eq_some_iff.1 hx).1 fun c hc hcb => ?_).trans hx⟩
        simp only [List.mem_cons, List.not_mem_nil, or_false] at hc
        rcases hc with rfl | rfl
        · cases hcb; exact hm1.no_box ⟨T, hx⟩ rfl
        · cases hcb; exact hm2.no_box ⟨T, hx⟩ rfl⟩⟩

/-- The error of a lane with a start and a pocket. -/
def aimErr (l : La) (s : St) (p : Pk) : Int := if startErr l s ≠ 0 then startErr l s else if isPocket p then 0 else 2
theorem aimed_je (l : La) (s : St) (p : Pk) (ha pa : Option Addr) (hc pc : Nat) (he : aimErr l s p ≠ 0) : Cv Try.prog 83 [.agg #[I l.boards, I l.rows, .slice ha l.hooks.length hc, .slice pa l.patches.length pc], .agg #[I s.b, I s.d], .agg #[I p.boards.lo, I p.boards.hi, I p.dirs.lo, I p.dirs.hi]] (KLane l ha hc pa pc) (.tuple #[ballNil, I (aimErr l s p)]) := by
  by_cases h0 : startErr l s = 0
  · refine Cx_of Try.func83 rfl Try.ntmps83 rfl fun w0 M0 => ?_
    refine JC_seq ?_
    refine JC_region ?_
    refine JL_step rfl rfl rfl (jo_box rfl rfl) fun b3 => ?_
    refine JL_step rfl rfl rfl (jo_box rfl rfl) fun b4 => ?_
    refine JL_step rfl rfl rfl (jo_box rfl rfl) fun b5 => ?_
    refine JL_step rfl rfl rfl (jo_alloc0 Try.zeroValue107 rfl) fun b6 => ?_
    refine JL_pd rfl (det_assign rfl) ?_
    refine JL_nil ?_
    refine JE_seq ?_
    refine JC_seq ?_
    refine JC_region ?_
    refine JL_dt rfl (det_loadKA rfl Try.isAgg37 Try.sizeOf37 rfl rfl) ?_
    refine JL_dt rfl (det_loadKA rfl Try.isAgg39 Try.sizeOf39 rfl rfl) ?_
    -- stop: op  2 t13 := (call (Call (value f56) (t11 t12) (37 39)))   <0 1>   65
    refine JL_step rfl rfl rfl (jo_call rfl rfl Try.call56 rfl (started_jo l s ha pa hc pc h0)) fun g => ?_
    refine JL_pd rfl (det_move rfl) ?_
    refine JL_pd rfl (det_extract rfl rfl) ?_
    refine JL_pd rfl (det_extract rfl rfl) ?_
    refine JL_step rfl rfl rfl (jo_alloc0 Try.zeroValue107 rfl) fun b8 => ?_
    refine JL_step0 rfl rfl (jo_store rfl rfl rfl (by first | (simp only [splice_norm]; done) | (simp only [splice_norm]; rfl) | rfl) Try.sizeOf107 rfl rfl) fun _ => ?_
    refine JL_pd rfl (det_assign rfl) ?_
    refine JL_nil ?_
    refine JE_seq ?_
    refine JC_seq ?_
    refine JC_block ?_
    refine JC_seq ?_
    refine JC_region ?_
    refine JL_pd rfl (det_move rfl) ?_
    refine JL_pd rfl (det_neq rfl rfl) ?_
    refine JL_pd rfl (det_assign rfl) ?_
    refine JL_nil ?_
    refine JE_seq ?_
    -- stop: cond
    refine JC_ifn rfl (fun h1 => ?_) (fun h1 => ?_)
    · refine JC_seq ?_
      refine JC_region ?_
      refine JL_pd rfl (det_build rfl (bld_107)) ?_
      refine JL_pd rfl (det_move rfl) ?_
      refine JL_step0 rfl rfl (jo_store rfl rfl rfl (by first | (simp only [splice_norm]; done) | (simp only [splice_norm]; rfl) | rfl) Try.sizeOf107 rfl rfl) fun _ => ?_
      refine JL_pd rfl (det_assign rfl) ?_
      refine JL_nil ?_
      refine JE_seq ?_
      refine JC_ret ?_
      refine JE_block_ret ?_
      refine JE_seq_ret ?_
      -- stop: out
      exact absurd rfl h1
    · refine JC_seq ?_
      refine JC_region ?_
      refine JL_dt rfl (det_loadKA rfl Try.isAgg62 Try.sizeOf62 rfl rfl) ?_
      -- stop: op  1 t23 := (call (Call (value f71) (t22) (62)))   <0>   69
      refine JL_step rfl rfl rfl (jo_callv rfl rfl Try.call71 rfl (valid_j p)) fun _ => ?_
      refine JL_pd rfl (det_not rfl) ?_
      refine JL_pd rfl (det_assign rfl) ?_
      refine JL_nil ?_
      refine JE_seq ?_
      -- stop: cond
      have hp : isPocket p = false := by
        cases h : isPocket p
        · rfl
        · simp [aimErr, h0, h] at he
      refine JC_cond rfl (fun h2 => ?_) (fun h2 => ?_)
      · refine JC_seq ?_
        refine JC_region ?_
        refine JL_pd rfl (det_build rfl (bld_107)) ?_
        refine JL_step0 rfl rfl (jo_store rfl rfl rfl (by first | (simp only [splice_norm]; done) | (simp only [splice_norm]; rfl) | rfl) Try.sizeOf107 rfl rfl) fun _ => ?_
        refine JL_pd rfl (det_assign rfl) ?_
        refine JL_nil ?_
        refine JE_seq ?_
        refine JC_ret ?_
        refine JE_block_ret ?_
        refine JE_seq_ret ?_
        -- stop: out
        refine JE_out (.inl rfl) () (results2 Try.results83 (res_box rfl Try.isAgg107 Try.sizeOf107 rfl) (res_tmp rfl)) (by simp [aimErr, h0, hp]) (List.Perm.refl _) (fun _ _ => trivial)
      · refine JC_skip ?_
        refine JE_block ?_
        refine JE_seq ?_
        refine JC_seq ?_
        refine JC_region ?_
        refine JL_dt rfl (det_loadKA rfl Try.isAgg107 Try.sizeOf107 rfl rfl) ?_
        refine JL_step0 rfl rfl (jo_store rfl rfl rfl (by first | (simp only [splice_norm]; done) | (simp only [splice_norm]; rfl) | rfl) Try.sizeOf107 rfl rfl) fun _ => ?_
        refine JL_pd rfl (det_assign rfl) ?_
        refine JL_nil ?_
        refine JE_seq ?_
        refine JC_ret ?_
        -- stop: out
        simp [hp] at h2
  · refine Cx_of Try.func83 rfl Try.ntmps83 rfl fun w0 M0 => ?_
    refine JC_seq ?_
    refine JC_region ?_
    refine JL_step rfl rfl rfl (jo_box rfl rfl) fun b3 => ?_
    refine JL_step rfl rfl rfl (jo_box rfl rfl) fun b4 => ?_
    refine JL_step rfl rfl rfl (jo_box rfl rfl) fun b5 => ?_
    refine JL_step rfl rfl rfl (jo_alloc0 Try.zeroValue107 rfl) fun b6 => ?_
    refine JL_pd rfl (det_assign rfl) ?_
    refine JL_nil ?_
    refine JE_seq ?_
    refine JC_seq ?_
    refine JC_region ?_
    refine JL_dt rfl (det_loadKA rfl Try.isAgg37 Try.sizeOf37 rfl rfl) ?_
    refine JL_dt rfl (det_loadKA rfl Try.isAgg39 Try.sizeOf39 rfl rfl) ?_
    -- stop: op  2 t13 := (call (Call (value f56) (t11 t12) (37 39)))   <0 1>   65
    refine JL_step rfl rfl rfl (jo_callv rfl rfl Try.call56 rfl (started_je l s ha pa hc pc h0)) fun _ => ?_
    refine JL_pd rfl (det_move rfl) ?_
    refine JL_pd rfl (det_extract rfl rfl) ?_
    refine JL_pd rfl (det_extract rfl rfl) ?_
    refine JL_step rfl rfl rfl (jo_alloc0 Try.zeroValue107 rfl) fun b8 => ?_
    refine JL_step0 rfl rfl (jo_store rfl rfl rfl (by first | (simp only [splice_norm]; done) | (simp only [splice_norm]; rfl) | rfl) Try.sizeOf107 rfl rfl) fun _ => ?_
    refine JL_pd rfl (det_assign rfl) ?_
    refine JL_nil ?_
    refine JE_seq ?_
    refine JC_seq ?_
    refine JC_block ?_
    refine JC_seq ?_
    refine JC_region ?_
    refine JL_pd rfl (det_move rfl) ?_
    refine JL_pd rfl (det_neq rfl rfl) ?_
    refine JL_pd rfl (det_assign rfl) ?_
    refine JL_nil ?_
    refine JE_seq ?_
    -- stop: cond
    refine JC_ifn rfl (fun h1 => ?_) (fun h1 => ?_)
    · refine JC_seq ?_
      refine JC_region ?_
      refine JL_pd rfl (det_build rfl (bld_107)) ?_
      refine JL_pd rfl (det_move rfl) ?_
      refine JL_step0 rfl rfl (jo_store rfl rfl rfl (by first | (simp only [splice_norm]; done) | (simp only [splice_norm]; rfl) | rfl) Try.sizeOf107 rfl rfl) fun _ => ?_
      refine JL_pd rfl (det_assign rfl) ?_
      refine JL_nil ?_
      refine JE_seq ?_
      refine JC_ret ?_
      refine JE_block_ret ?_
      refine JE_seq_ret ?_
      -- stop: out
      refine JE_out (.inl rfl) () (results2 Try.results83 (res_box rfl Try.isAgg107 Try.sizeOf107 rfl) (res_tmp rfl)) (by simp [aimErr, h0]) (List.Perm.refl _) (fun _ _ => trivial)
    · refine JC_seq ?_
      refine JC_region ?_
      refine JL_dt rfl (det_loadKA rfl Try.isAgg62 Try.sizeOf62 rfl rfl) ?_
      -- stop: op  1 t23 := (call (Call (value f71) (t22) (62)))   <0>   69
      exact absurd h1 h0
theorem aimed_jo (l : La) (s : St) (p : Pk) (ha pa : Option Addr) (hc pc : Nat) (he : aimErr l s p = 0) : Cr Try.prog 83 [.agg #[I l.boards, I l.rows, .slice ha l.hooks.length hc, .slice pa l.patches.length pc], .agg #[I s.b, I s.d], .agg #[I p.boards.lo, I p.boards.hi, I p.dirs.lo, I p.dirs.hi]] (KLane l ha hc pa pc) (fun g : Nat => .tuple #[.agg #[I l.boards, I l.rows, .slice ha l.hooks.length hc, .slice pa l.patches.length pc, .slice (some ⟨g, 0, none⟩) l.rows.toNat l.rows.toNat], I 0]) (fun g => KBall l ha hc pa pc g) := by
  have h0 : startErr l s = 0 := by
    unfold aimErr at he; split at he
    · contradiction
    · simp_all
  have hp : isPocket p = true := by
    cases h : isPocket p
    · simp [aimErr, h0, h] at he
    · rfl
  refine Cx_of Try.func83 rfl Try.ntmps83 rfl fun w0 M0 => ?_
  refine JC_seq ?_
  refine JC_region ?_
  refine JL_step rfl rfl rfl (jo_box rfl rfl) fun b3 => ?_
  refine JL_step rfl rfl rfl (jo_box rfl rfl) fun b4 => ?_
  refine JL_step rfl rfl rfl (jo_box rfl rfl) fun b5 => ?_
  refine JL_step rfl rfl rfl (jo_alloc0 Try.zeroValue107 rfl) fun b6 => ?_
  refine JL_pd rfl (det_assign rfl) ?_
  refine JL_nil ?_
  refine JE_seq ?_
  refine JC_seq ?_
  refine JC_region ?_
  refine JL_dt rfl (det_loadKA rfl Try.isAgg37 Try.sizeOf37 rfl rfl) ?_
  refine JL_dt rfl (det_loadKA rfl Try.isAgg39 Try.sizeOf39 rfl rfl) ?_
  -- stop: op  2 t13 := (call (Call (value f56) (t11 t12) (37 39)))   <0 1>   65
  refine JL_step rfl rfl rfl (jo_call rfl rfl Try.call56 rfl (started_jo l s ha pa hc pc h0)) fun g => ?_
  refine JL_pd rfl (det_move rfl) ?_
  refine JL_pd rfl (det_extract rfl rfl) ?_
  refine JL_pd rfl (det_extract rfl rfl) ?_
  refine JL_step rfl rfl rfl (jo_alloc0 Try.zeroValue107 rfl) fun b8 => ?_
  refine JL_step0 rfl rfl (jo_store rfl rfl rfl (by first | (simp only [splice_norm]; done) | (simp only [splice_norm]; rfl) | rfl) Try.sizeOf107 rfl rfl) fun _ => ?_
  refine JL_pd rfl (det_assign rfl) ?_
  refine JL_nil ?_
  refine JE_seq ?_
  refine JC_seq ?_
  refine JC_block ?_
  refine JC_seq ?_
  refine JC_region ?_
  refine JL_pd rfl (det_move rfl) ?_
  refine JL_pd rfl (det_neq rfl rfl) ?_
  refine JL_pd rfl (det_assign rfl) ?_
  refine JL_nil ?_
  refine JE_seq ?_
  -- stop: cond
  refine JC_ifn rfl (fun h1 => ?_) (fun h1 => ?_)
  · refine JC_seq ?_
    refine JC_region ?_
    refine JL_pd rfl (det_build rfl (bld_107)) ?_
    refine JL_pd rfl (det_move rfl) ?_
    refine JL_step0 rfl rfl (jo_store rfl rfl rfl (by first | (simp only [splice_norm]; done) | (simp only [splice_norm]; rfl) | rfl) Try.sizeOf107 rfl rfl) fun _ => ?_
    refine JL_pd rfl (det_assign rfl) ?_
    refine JL_nil ?_
    refine JE_seq ?_
    refine JC_ret ?_
    refine JE_block_ret ?_
    refine JE_seq_ret ?_
    -- stop: out
    exact absurd rfl h1
  · refine JC_seq ?_
    refine JC_region ?_
    refine JL_dt rfl (det_loadKA rfl Try.isAgg62 Try.sizeOf62 rfl rfl) ?_
    -- stop: op  1 t23 := (call (Call (value f71) (t22) (62)))   <0>   69
    refine JL_step rfl rfl rfl (jo_callv rfl rfl Try.call71 rfl (valid_j p)) fun _ => ?_
    refine JL_pd rfl (det_not rfl) ?_
    refine JL_pd rfl (det_assign rfl) ?_
    refine JL_nil ?_
    refine JE_seq ?_
    -- stop: cond
    refine JC_cond rfl (fun h2 => ?_) (fun h2 => ?_)
    · refine JC_seq ?_
      refine JC_region ?_
      refine JL_pd rfl (det_build rfl (bld_107)) ?_
      refine JL_step0 rfl rfl (jo_store rfl rfl rfl (by first | (simp only [splice_norm]; done) | (simp only [splice_norm]; rfl) | rfl) Try.sizeOf107 rfl rfl) fun _ => ?_
      refine JL_pd rfl (det_assign rfl) ?_
      refine JL_nil ?_
      refine JE_seq ?_
      refine JC_ret ?_
      refine JE_block_ret ?_
      refine JE_seq_ret ?_
      -- stop: out
      simp [hp] at h2
    · refine JC_skip ?_
      refine JE_block ?_
      refine JE_seq ?_
      refine JC_seq ?_
      refine JC_region ?_
      refine JL_dt rfl (det_loadKA rfl Try.isAgg107 Try.sizeOf107 rfl rfl) ?_
      refine JL_step0 rfl rfl (jo_store rfl rfl rfl (by first | (simp only [splice_norm]; done) | (simp only [splice_norm]; rfl) | rfl) Try.sizeOf107 rfl rfl) fun _ => ?_
      refine JL_pd rfl (det_assign rfl) ?_
      refine JL_nil ?_
      refine JE_seq ?_
      refine JC_ret ?_
      -- stop: out
      refine JE_out (.inl rfl) g (results2 Try.results83 (res_box rfl Try.isAgg107 Try.sizeOf107 rfl) (res_tmp rfl)) rfl (List.Perm.refl _) (fun w h => h.1)
end Go.Proofs.Ytcfhbnfincpehaa
