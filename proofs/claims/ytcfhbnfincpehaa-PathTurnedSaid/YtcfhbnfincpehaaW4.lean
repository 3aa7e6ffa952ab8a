/- Walks of package path: Hits, Aims. -/
import Derived.Test.YtcfhbnfincpehaaW3
namespace Go.Proofs.Ytcfhbnfincpehaa
open Go.RowKit Go.Shelf

def enM (p : Pk) (b : Bool) (s : St) : Bool := !hitsP p b s
def nR (l : La) : Nat := (l.rows - 1).toNat
/-- Whether a ball hits a pocket: never, in some truth, in all. -/
def hitsV (l : La) (s : St) (p : Pk) : Int := if canN l (enM p) (nR l) 0 s then (if canN l (hitsP p) (nR l) 0 s then 1 else 0) else 2
def noMemo (l : La) (en : Bool → St → Bool) : Memo l en := ⟨fun _ => none, fun _ _ h => by cases h⟩
theorem canH_j (l : La) (p : Pk) (ha pa : Option Addr) (hc pc g A mb : Nat) (V : Valid l) (s : St) (m : Memo l (hitsP p)) (d1 : -5 ≤ s.d) (d2 : s.d ≤ 5) :
    Cx Try.prog 74 [pt A, I 0, .agg #[I s.b, I s.d]] [mp mb ekSp vB m.1] (KAnd (KBox A (aimCs l p ha hc pa pc g 91 mb)) (KBall l ha hc pa pc g))
        (fun _ : Memo l (hitsP p) => .bool (canN l (hitsP p) (nR l) 0 s)) (fun m' => [mp mb ekSp vB m'.1]) (fun _ => KTrue) :=
  can_j l p ha pa hc pc g A 91 mb (hitsP p) V Try.call91 (fun b s => hit_j p b s) (nR l) 0 s m (by have := V.r1; unfold nR; omega) (by omega) d1 d2
theorem canM_j (l : La) (p : Pk) (ha pa : Option Addr) (hc pc g A mb : Nat) (V : Valid l) (s : St) (m : Memo l (enM p)) (d1 : -5 ≤ s.d) (d2 : s.d ≤ 5) :
    Cx Try.prog 74 [pt A, I 0, .agg #[I s.b, I s.d]] [mp mb ekSp vB m.1] (KAnd (KBox A (aimCs l p ha hc pa pc g 92 mb)) (KBall l ha hc pa pc g))
        (fun _ : Memo l (enM p) => .bool (canN l (enM p) (nR l) 0 s)) (fun m' => [mp mb ekSp vB m'.1]) (fun _ => KTrue) :=
  can_j l p ha pa hc pc g A 92 mb (enM p) V Try.call92 (fun b s => miss_j p b s) (nR l) 0 s m (by have := V.r1; unfold nR; omega) (by omega) d1 d2

theorem aim_ok {l : La} {s : St} {p : Pk} (h : aimErr l s p = 0) : startErr l s = 0 ∧ isPocket p = true := by
  unfold aimErr at h
  split at h
  · contradiction
  · refine ⟨by simp_all, ?_⟩
    cases hp : isPocket p
    · simp [hp] at h
    · rfl
theorem Hits_je (l : La) (s : St) (p : Pk) (ha pa : Option Addr) (hc pc : Nat) (he : aimErr l s p ≠ 0) : Cv Try.prog 45 [.agg #[I l.boards, I l.rows, .slice ha l.hooks.length hc, .slice pa l.patches.length pc], .agg #[I s.b, I s.d], .agg #[I p.boards.lo, I p.boards.hi, I p.dirs.lo, I p.dirs.hi]] (KLane l ha hc pa pc) (.tuple #[.int .u8 0, I (aimErr l s p)]) := by
  refine Cx_of Try.func45 rfl Try.ntmps45 rfl fun w0 M0 => ?_
  refine JC_seq ?_
  refine JC_region ?_
  refine JL_step rfl rfl rfl (jo_box rfl rfl) fun b3 => ?_
  refine JL_step rfl rfl rfl (jo_box rfl rfl) fun b4 => ?_
  refine JL_step rfl rfl rfl (jo_box rfl rfl) fun b5 => ?_
  refine JL_pd rfl (det_assign rfl) ?_
  refine JL_pd rfl (det_assign rfl) ?_
  refine JL_nil ?_
  refine JE_seq ?_
  refine JC_seq ?_
  refine JC_region ?_
  refine JL_dt rfl (det_loadKA rfl Try.isAgg37 Try.sizeOf37 rfl rfl) ?_
  refine JL_dt rfl (det_loadKA rfl Try.isAgg39 Try.sizeOf39 rfl rfl) ?_
  refine JL_dt rfl (det_loadKA rfl Try.isAgg62 Try.sizeOf62 rfl rfl) ?_
  -- stop: op  3 t16 := (call (Call (value f83) (t13 t14 t15) (37 39 62)))   <0 1 2>   77
  refine JL_step rfl rfl rfl (jo_callv rfl rfl Try.call83 rfl (aimed_je l s p ha pa hc pc he)) fun _ => ?_
  refine JL_pd rfl (det_move rfl) ?_
  refine JL_pd rfl (det_extract rfl rfl) ?_
  refine JL_pd rfl (det_extract rfl rfl) ?_
  refine JL_step rfl rfl rfl (jo_alloc0 Try.zeroValue107 rfl) fun b8 => ?_
  refine JL_step0 rfl rfl (jo_store rfl rfl rfl (by first | (simp only [splice_norm]; done) | (simp only [splice_norm]; rfl) | rfl) Try.sizeOf107 rfl rfl) fun _ => ?_
  refine JL_pd rfl (det_assign rfl) ?_
  refine JL_nil ?_
  refine JE_seq ?_
  refine JC_seq ?_
  refine JC_seq ?_
  refine JC_region ?_
  refine JL_pd rfl (det_move rfl) ?_
  refine JL_pd rfl (det_neq rfl rfl) ?_
  refine JL_nil ?_
  refine JE_seq ?_
  -- stop: cond
  refine JC_ifn rfl (fun h1 => ?_) (fun h1 => ?_)
  · refine JC_seq ?_
    refine JC_region ?_
    refine JL_pd rfl (det_move rfl) ?_
    refine JL_pd rfl (det_assign rfl) ?_
    refine JL_pd rfl (det_assign rfl) ?_
    refine JL_nil ?_
    refine JE_seq ?_
    refine JC_ret ?_
    refine JE_seq_ret ?_
    -- stop: out
    refine JE_out (.inl rfl) () (results2 Try.results45 (res_tmp rfl) (res_tmp rfl)) rfl (List.Perm.refl _) (fun _ _ => trivial)
  · refine JC_skip ?_
    refine JE_seq ?_
    refine JC_seq ?_
    refine JC_region ?_
    refine JL_dt rfl (det_loadKA rfl Try.isAgg107 Try.sizeOf107 rfl rfl) ?_
    refine JL_dt rfl (det_loadKA rfl Try.isAgg62 Try.sizeOf62 rfl rfl) ?_
    -- stop: op  2 t25 := (call (Call (value f73) (t23 t24) (107 62)))   <0 1>   81
    exact absurd h1 he
theorem Hits_jo (l : La) (s : St) (p : Pk) (ha pa : Option Addr) (hc pc : Nat) (he : aimErr l s p = 0) : Cv Try.prog 45 [.agg #[I l.boards, I l.rows, .slice ha l.hooks.length hc, .slice pa l.patches.length pc], .agg #[I s.b, I s.d], .agg #[I p.boards.lo, I p.boards.hi, I p.dirs.lo, I p.dirs.hi]] (KLane l ha hc pa pc) (.tuple #[.int .u8 (hitsV l s p), I 0]) := by
  obtain ⟨V, h0⟩ := valid_start (aim_ok he).1
  obtain ⟨d1, d2⟩ := start_d h0
  refine Cx_of Try.func45 rfl Try.ntmps45 rfl fun w0 M0 => ?_
  refine JC_seq ?_
  refine JC_region ?_
  refine JL_step rfl rfl rfl (jo_box rfl rfl) fun b3 => ?_
  refine JL_step rfl rfl rfl (jo_box rfl rfl) fun b4 => ?_
  refine JL_step rfl rfl rfl (jo_box rfl rfl) fun b5 => ?_
  refine JL_pd rfl (det_assign rfl) ?_
  refine JL_pd rfl (det_assign rfl) ?_
  refine JL_nil ?_
  refine JE_seq ?_
  refine JC_seq ?_
  refine JC_region ?_
  refine JL_dt rfl (det_loadKA rfl Try.isAgg37 Try.sizeOf37 rfl rfl) ?_
  refine JL_dt rfl (det_loadKA rfl Try.isAgg39 Try.sizeOf39 rfl rfl) ?_
  refine JL_dt rfl (det_loadKA rfl Try.isAgg62 Try.sizeOf62 rfl rfl) ?_
  -- stop: op  3 t16 := (call (Call (value f83) (t13 t14 t15) (37 39 62)))   <0 1 2>   77
  refine JL_step rfl rfl rfl (jo_call rfl rfl Try.call83 rfl (aimed_jo l s p ha pa hc pc he)) fun g => ?_
  refine JL_pd rfl (det_move rfl) ?_
  refine JL_pd rfl (det_extract rfl rfl) ?_
  refine JL_pd rfl (det_extract rfl rfl) ?_
  refine JL_step rfl rfl rfl (jo_alloc0 Try.zeroValue107 rfl) fun b8 => ?_
  refine JL_step0 rfl rfl (jo_store rfl rfl rfl (by first | (simp only [splice_norm]; done) | (simp only [splice_norm]; rfl) | rfl) Try.sizeOf107 rfl rfl) fun _ => ?_
  refine JL_pd rfl (det_assign rfl) ?_
  refine JL_nil ?_
  refine JE_seq ?_
  refine JC_seq ?_
  refine JC_seq ?_
  refine JC_region ?_
  refine JL_pd rfl (det_move rfl) ?_
  refine JL_pd rfl (det_neq rfl rfl) ?_
  refine JL_nil ?_
  refine JE_seq ?_
  -- stop: cond
  refine JC_ifn rfl (fun h1 => ?_) (fun h1 => ?_)
  · refine JC_seq ?_
    refine JC_region ?_
    refine JL_pd rfl (det_move rfl) ?_
    refine JL_pd rfl (det_assign rfl) ?_
    refine JL_pd rfl (det_assign rfl) ?_
    refine JL_nil ?_
    refine JE_seq ?_
    refine JC_ret ?_
    refine JE_seq_ret ?_
    -- stop: out
    exact absurd rfl h1
  · refine JC_skip ?_
    refine JE_seq ?_
    refine JC_seq ?_
    refine JC_region ?_
    refine JL_dt rfl (det_loadKA rfl Try.isAgg107 Try.sizeOf107 rfl rfl) ?_
    refine JL_dt rfl (det_loadKA rfl Try.isAgg62 Try.sizeOf62 rfl rfl) ?_
    -- stop: op  2 t25 := (call (Call (value f73) (t23 t24) (107 62)))   <0 1>   81
    refine JL_step rfl rfl rfl (jo_callx rfl rfl Try.call73 rfl (aimers_j l p ha pa hc pc g) ((List.Perm.refl _))) fun ⟨⟨A1, A2⟩, m1, m2⟩ => ?_
    refine JL_pd rfl (det_move rfl) ?_
    refine JL_pd rfl (det_extract rfl rfl) ?_
    refine JL_pd rfl (det_extract rfl rfl) ?_
    refine JL_pd rfl (det_assign rfl) ?_
    refine JL_pd rfl (det_assign rfl) ?_
    refine JL_nil ?_
    refine JE_seq ?_
    refine JC_seq ?_
    refine JC_block ?_
    refine JC_seq ?_
    refine JC_region ?_
    refine JL_pd rfl (det_move rfl) ?_
    refine JL_dt rfl (det_loadKA rfl Try.isAgg39 Try.sizeOf39 rfl rfl) ?_
    -- stop: op  2 t31 := (call (Call (value f74) (t29 0 t30) (133 3 39)))   <0 1>   83
    refine JL_step rfl rfl rfl (jo_callx rfl rfl Try.call74 rfl (canM_j l p ha pa hc pc g A2 m2 V s (noMemo l (enM p)) d1 d2) ((perm1 (mp m2 ekSp vB (fun _ => none))))) fun n2 => ?_
    refine JL_pd rfl (det_not rfl) ?_
    refine JL_pd rfl (det_assign rfl) ?_
    refine JL_nil ?_
    refine JE_seq ?_
    -- stop: cond
    refine JC_cond rfl (fun h2 => ?_) (fun h2 => ?_)
    · refine JC_seq ?_
      refine JC_region ?_
      refine JL_pd rfl (det_assign rfl) ?_
      refine JL_pd rfl (det_assign rfl) ?_
      refine JL_nil ?_
      refine JE_seq ?_
      refine JC_ret ?_
      refine JE_block_ret ?_
      refine JE_seq_ret ?_
      -- stop: out
      refine JE_out (.inl rfl) () (results2 Try.results45 (res_tmp rfl) (res_tmp rfl)) (by simp at h2; simp [hitsV, h2]) (List.Perm.refl _) (fun _ _ => trivial)
    · refine JC_seq ?_
      refine JC_region ?_
      refine JL_pd rfl (det_move rfl) ?_
      refine JL_dt rfl (det_loadKA rfl Try.isAgg39 Try.sizeOf39 rfl rfl) ?_
      -- stop: op  2 t36 := (call (Call (value f74) (t34 0 t35) (133 3 39)))   <0 1>   85
      refine JL_step rfl rfl rfl (jo_callx rfl rfl Try.call74 rfl (canH_j l p ha pa hc pc g A1 m1 V s (noMemo l (hitsP p)) d1 d2) ((perm1 (mp m1 ekSp vB (fun _ => none))))) fun n1 => ?_
      refine JL_pd rfl (det_assign rfl) ?_
      refine JL_nil ?_
      refine JE_seq ?_
      -- stop: cond
      refine JC_cond rfl (fun h3 => ?_) (fun h3 => ?_)
      · refine JC_seq ?_
        refine JC_region ?_
        refine JL_pd rfl (det_assign rfl) ?_
        refine JL_pd rfl (det_assign rfl) ?_
        refine JL_nil ?_
        refine JE_seq ?_
        refine JC_ret ?_
        refine JE_block_ret ?_
        refine JE_seq_ret ?_
        -- stop: out
        refine JE_out (.inl rfl) () (results2 Try.results45 (res_tmp rfl) (res_tmp rfl)) (by simp at h2; simp [hitsV, h2, h3]) (List.Perm.refl _) (fun _ _ => trivial)
      · refine JC_skip ?_
        refine JE_block ?_
        refine JE_seq ?_
        refine JC_seq ?_
        refine JC_region ?_
        refine JL_pd rfl (det_assign rfl) ?_
        refine JL_pd rfl (det_assign rfl) ?_
        refine JL_nil ?_
        refine JE_seq ?_
        refine JC_ret ?_
        -- stop: out
        refine JE_out (.inl rfl) () (results2 Try.results45 (res_tmp rfl) (res_tmp rfl)) (by simp at h2; simp [hitsV, h2, h3]) (List.Perm.refl _) (fun _ _ => trivial)
end Go.Proofs.Ytcfhbnfincpehaa
