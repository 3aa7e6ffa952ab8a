/- Walks of the reference and of the statements about path: small functions. -/
import Derived.Test.YtcfhbnfincpehaaW8
namespace Go.Proofs.Ytcfhbnfincpehaa
open Go.RowKit Go.Shelf

theorem rIn_j (n lo hi : Int) : Cv Try.prog 22 [I n, I lo, I hi] KTrue (.bool (decide (lo ≤ n ∧ n ≤ hi))) := by
  refine Cx_of Try.func22 rfl Try.ntmps22 rfl fun w0 M0 => ?_
  refine JC_seq ?_
  refine JC_region ?_
  refine JL_pd rfl (det_assign rfl) ?_
  refine JL_nil ?_
  refine JE_seq ?_
  refine JC_seq ?_
  refine JC_region ?_
  refine JL_pd rfl (det_move rfl) ?_
  refine JL_pd rfl (det_move rfl) ?_
  refine JL_pd rfl (det_geq rfl rfl) ?_
  refine JL_pd rfl (det_move rfl) ?_
  refine JL_split (d0 := 10) rfl (fun h1 => ?_) (fun h1 => ?_)
  · refine JL_guard rfl rfl h1 ?_
    refine JL_pd rfl (det_move rfl) ?_
    refine JL_guard rfl rfl h1 ?_
    refine JL_pd rfl (det_move rfl) ?_
    refine JL_guard rfl rfl h1 ?_
    refine JL_pd rfl (det_leq rfl rfl) ?_
    refine JL_pd rfl (det_pick_t rfl h1 rfl) ?_
    refine JL_pd rfl (det_assign rfl) ?_
    refine JL_nil ?_
    refine JE_seq ?_
    refine JC_ret ?_
    refine JE_out (.inl rfl) () (results1 Try.results22 (res_tmp rfl)) ?_ (List.Perm.refl _) (fun _ _ => trivial)
    (simp_all)
    (try omega)
  · refine JL_skip rfl rfl h1 rfl ?_
    refine JL_skip rfl rfl h1 rfl ?_
    refine JL_skip rfl rfl h1 rfl ?_
    refine JL_pd rfl (det_pick_f rfl h1 rfl) ?_
    refine JL_pd rfl (det_assign rfl) ?_
    refine JL_nil ?_
    refine JE_seq ?_
    refine JC_ret ?_
    refine JE_out (.inl rfl) () (results1 Try.results22 (res_tmp rfl)) ?_ (List.Perm.refl _) (fun _ _ => trivial)
    (simp_all)
    (try omega)
theorem rFault_j (l : La) (ha pa : Option Addr) (hc pc : Nat) : Cv Try.prog 28 [.agg #[I l.boards, I l.rows, .slice ha l.hooks.length hc, .slice pa l.patches.length pc]] (KLane l ha hc pa pc) (I (fault l)) :=
  Cv_of fun w h => Fault_any l ha pa hc pc w h.at_
theorem rIsStart_j (l : La) (ha pa : Option Addr) (hc pc : Nat) (s : St) : Cv Try.prog 60 [.agg #[I l.boards, I l.rows, .slice ha l.hooks.length hc, .slice pa l.patches.length pc], .agg #[I s.b, I s.d]] KTrue (.bool (isStart l s)) :=
  Cv_of fun w _ => IsStart_any l s ha pa hc pc w
theorem rIsPocket_j (p : Pk) : Cv Try.prog 33 [.agg #[I p.boards.lo, I p.boards.hi, I p.dirs.lo, I p.dirs.hi]] KTrue (.bool (isPocket p)) := Cv_of fun w _ => IsPocket_any p w
theorem rNext_j (s : St) (t : Int) (h1 : -5 ≤ s.d) (h2 : s.d ≤ 5) (h3 : -3 ≤ t) (h4 : t ≤ 3) (h5 : -1000 ≤ s.b) (h6 : s.b ≤ 1000) : Cv Try.prog 38 [.agg #[I s.b, I s.d], I t] KTrue (.agg #[I (nextS s t).b, I (nextS s t).d]) :=
  Cv_of fun w _ => Next_any s t w h1 h2 h3 h4 h5 h6
theorem rLess_j (s t : St) : Cv Try.prog 62 [.agg #[I s.b, I s.d], .agg #[I t.b, I t.d]] KTrue (.bool (lessS s t)) := Cv_of fun w _ => Less_any s t w
theorem rVerdict_j (n m : Int) : Cv Try.prog 63 [I n, I m] KTrue (.int .u8 (verdict n m)) := Cv_of fun w _ => (Verdict_any n m w).mono fun e w' h => ⟨h.1, by rw [← h.2]; exact Below.refl _ _⟩

theorem lTo_j (r : Rg) : Cv Try.prog 26 [.agg #[I r.lo, I r.hi]] KTrue (.agg #[I r.lo, I r.hi]) := by
  refine Cx_of Try.func26 rfl Try.ntmps26 rfl fun w0 M0 => ?_
  refine JC_seq ?_
  refine JC_region ?_
  refine JL_step rfl rfl rfl (jo_box rfl rfl) fun b1 => ?_
  refine JL_step rfl rfl rfl (jo_alloc0 Try.zeroValue49 rfl) fun b2 => ?_
  refine JL_nil ?_
  refine JE_seq ?_
  refine JC_seq ?_
  refine JC_region ?_
  refine JL_pd rfl (det_fieldAddr rfl fo_53_0) ?_
  refine JL_dt rfl (det_loadK rfl Try.isAgg3 rfl) ?_
  refine JL_pd rfl (det_fieldAddr rfl fo_53_1) ?_
  refine JL_dt rfl (det_loadK rfl Try.isAgg3 rfl) ?_
  refine JL_pd rfl (det_build rfl (bld_49_0_1 _ _)) ?_
  refine JL_step0 rfl rfl (jo_store rfl rfl rfl (by first | (simp only [splice_norm]; done) | (simp only [splice_norm]; rfl) | rfl) Try.sizeOf49 rfl rfl) fun _ => ?_
  refine JL_nil ?_
  refine JE_seq ?_
  refine JC_ret ?_
  refine JE_out (.inl rfl) () (results1 Try.results26 (res_box rfl Try.isAgg49 Try.sizeOf49 rfl)) ?_ (List.Perm.refl _) (fun _ _ => trivial)
  rfl
theorem lStart_j (s : St) : Cv Try.prog 20 [.agg #[I s.b, I s.d]] KTrue (.agg #[I s.b, I s.d]) := by
  refine Cx_of Try.func20 rfl Try.ntmps20 rfl fun w0 M0 => ?_
  refine JC_seq ?_
  refine JC_region ?_
  refine JL_step rfl rfl rfl (jo_box rfl rfl) fun b1 => ?_
  refine JL_step rfl rfl rfl (jo_alloc0 Try.zeroValue39 rfl) fun b2 => ?_
  refine JL_nil ?_
  refine JE_seq ?_
  refine JC_seq ?_
  refine JC_region ?_
  refine JL_pd rfl (det_fieldAddr rfl fo_27_0) ?_
  refine JL_dt rfl (det_loadK rfl Try.isAgg3 rfl) ?_
  refine JL_pd rfl (det_fieldAddr rfl fo_27_1) ?_
  refine JL_dt rfl (det_loadK rfl Try.isAgg3 rfl) ?_
  refine JL_pd rfl (det_build rfl (bld_39_0_1 _ _)) ?_
  refine JL_step0 rfl rfl (jo_store rfl rfl rfl (by first | (simp only [splice_norm]; done) | (simp only [splice_norm]; rfl) | rfl) Try.sizeOf39 rfl rfl) fun _ => ?_
  refine JL_nil ?_
  refine JE_seq ?_
  refine JC_ret ?_
  refine JE_out (.inl rfl) () (results1 Try.results20 (res_box rfl Try.isAgg39 Try.sizeOf39 rfl)) ?_ (List.Perm.refl _) (fun _ _ => trivial)
  rfl
theorem lPocket_j (p : Pk) : Cv Try.prog 30 [.agg #[I p.boards.lo, I p.boards.hi, I p.dirs.lo, I p.dirs.hi]] KTrue (.agg #[I p.boards.lo, I p.boards.hi, I p.dirs.lo, I p.dirs.hi]) := by
  refine Cx_of Try.func30 rfl Try.ntmps30 rfl fun w0 M0 => ?_
  refine JC_seq ?_
  refine JC_region ?_
  refine JL_step rfl rfl rfl (jo_box rfl rfl) fun b1 => ?_
  refine JL_step rfl rfl rfl (jo_alloc0 Try.zeroValue62 rfl) fun b2 => ?_
  refine JL_nil ?_
  refine JE_seq ?_
  refine JC_seq ?_
  refine JC_draw [7] (by kernel_rfl) ?_
  refine JA_pd (i := 0) rfl (by kernel_rfl) rfl rfl (det_fieldAddr rfl fo_57_0) ?_
  refine JA_dt (i := 1) rfl (by kernel_rfl) (by kernel_rfl) rfl rfl (det_loadKA rfl Try.isAgg53 Try.sizeOf53 rfl rfl) ?_
  refine JA_pd (i := 3) rfl (by kernel_rfl) rfl rfl (det_fieldAddr rfl fo_57_1) ?_
  refine JA_dt (i := 4) rfl (by kernel_rfl) (by kernel_rfl) rfl rfl (det_loadKA rfl Try.isAgg53 Try.sizeOf53 rfl rfl) ?_
  refine JA_one (i := 2) (by kernel_rfl) rfl rfl rfl (jo_callv rfl rfl Try.call26 rfl (lTo_j ⟨_, _⟩)) (fun _ => ⟨hsub_refl, fun _ h => h⟩) fun _ => ?_
  refine JA_one (i := 5) (by kernel_rfl) rfl rfl rfl (jo_callv rfl rfl Try.call26 rfl (lTo_j ⟨_, _⟩)) (fun _ => ⟨hsub_refl, fun _ h => h⟩) fun _ => ?_
  refine JA_pd (i := 6) rfl (by kernel_rfl) rfl rfl (det_build rfl (bld_62_0_1 _ _ _ _)) ?_
  refine JA_tail (i := 7) (by kernel_rfl) rfl rfl rfl rfl rfl (jo_store rfl rfl rfl (by first | (simp only [splice_norm]; done) | (simp only [splice_norm]; rfl) | rfl) Try.sizeOf62 rfl rfl) fun _ => ?_
  refine JT_done (by kernel_rfl) ?_
  refine JE_seq ?_
  refine JC_ret ?_
  refine JE_out (.inl rfl) () (results1 Try.results30 (res_box rfl Try.isAgg62 Try.sizeOf62 rfl)) ?_ (List.Perm.refl _) (fun _ _ => trivial)
  rfl
theorem lbetween_j (a b : Int) : Cv Try.prog 54 [I a, I b] KTrue (.agg #[I a, I b]) := by
  refine Cx_of Try.func54 rfl Try.ntmps54 rfl fun w0 M0 => ?_
  refine JC_seq ?_
  refine JC_region ?_
  refine JL_step rfl rfl rfl (jo_alloc0 Try.zeroValue49 rfl) fun b4 => ?_
  refine JL_nil ?_
  refine JE_seq ?_
  refine JC_seq ?_
  refine JC_region ?_
  refine JL_pd rfl (det_move rfl) ?_
  refine JL_pd rfl (det_move rfl) ?_
  refine JL_pd rfl (det_build rfl (bld_49_0_1 _ _)) ?_
  refine JL_step0 rfl rfl (jo_store rfl rfl rfl (by first | (simp only [splice_norm]; done) | (simp only [splice_norm]; rfl) | rfl) Try.sizeOf49 rfl rfl) fun _ => ?_
  refine JL_nil ?_
  refine JE_seq ?_
  refine JC_ret ?_
  refine JE_out (.inl rfl) () (results1 Try.results54 (res_box rfl Try.isAgg49 Try.sizeOf49 rfl)) ?_ (List.Perm.refl _) (fun _ _ => trivial)
  rfl
def aimedP : Pk := ⟨⟨9, 15⟩, ⟨-3, -1⟩⟩
theorem laimed_j : Cv Try.prog 53 [] KTrue (.agg #[I aimedP.boards.lo, I aimedP.boards.hi, I aimedP.dirs.lo, I aimedP.dirs.hi]) := by
  refine Cx_of Try.func53 rfl Try.ntmps53 rfl fun w0 M0 => ?_
  refine JC_seq ?_
  refine JC_region ?_
  refine JL_step rfl rfl rfl (jo_alloc0 Try.zeroValue62 rfl) fun b0 => ?_
  refine JL_nil ?_
  refine JE_seq ?_
  refine JC_seq ?_
  refine JC_region ?_
  refine JL_step rfl rfl rfl (jo_callv rfl rfl Try.call54 rfl (lbetween_j _ _)) fun _ => ?_
  refine JL_step rfl rfl rfl (jo_callv rfl rfl Try.call54 rfl (lbetween_j _ _)) fun _ => ?_
  refine JL_pd rfl (det_build rfl (bld_62_0_1 _ _ _ _)) ?_
  refine JL_step0 rfl rfl (jo_store rfl rfl rfl (by first | (simp only [splice_norm]; done) | (simp only [splice_norm]; rfl) | rfl) Try.sizeOf62 rfl rfl) fun _ => ?_
  refine JL_nil ?_
  refine JE_seq ?_
  refine JC_ret ?_
  refine JE_out (.inl rfl) () (results1 Try.results53 (res_box rfl Try.isAgg62 Try.sizeOf62 rfl)) ?_ (List.Perm.refl _) (fun _ _ => trivial)
  rfl
/-- At most 12 patches, 6 hooks. -/
def thin (l : La) : Bool := decide (l.patches.length ≤ 12 ∧ l.hooks.length ≤ 6)
theorem lThin_j (l : La) (ha pa : Option Addr) (hc pc : Nat) : Cv Try.prog 40 [.agg #[I l.boards, I l.rows, .slice ha l.hooks.length hc, .slice pa l.patches.length pc]] KTrue (.bool (thin l)) := by
  refine Cx_of Try.func40 rfl Try.ntmps40 rfl fun w0 M0 => ?_
  refine JC_seq ?_
  refine JC_region ?_
  refine JL_step rfl rfl rfl (jo_box rfl rfl) fun b1 => ?_
  refine JL_pd rfl (det_assign rfl) ?_
  refine JL_nil ?_
  refine JE_seq ?_
  refine JC_seq ?_
  refine JC_region ?_
  refine JL_pd rfl (det_fieldAddr rfl fo_25_3) ?_
  refine JL_dt rfl (det_loadK rfl Try.isAgg23 rfl) ?_
  refine JL_pd rfl (det_len rfl Try.runUnderlying23) ?_
  refine JL_pd rfl (det_leq rfl rfl) ?_
  refine JL_pd rfl (det_move rfl) ?_
  refine JL_split (d0 := 7) rfl (fun h1 => ?_) (fun h1 => ?_)
  · refine JL_guard rfl rfl h1 ?_
    refine JL_pd rfl (det_fieldAddr rfl fo_25_2) ?_
    refine JL_guard rfl rfl h1 ?_
    refine JL_dt rfl (det_loadK rfl Try.isAgg22 rfl) ?_
    refine JL_guard rfl rfl h1 ?_
    refine JL_pd rfl (det_len rfl Try.runUnderlying22) ?_
    refine JL_guard rfl rfl h1 ?_
    refine JL_pd rfl (det_leq rfl rfl) ?_
    refine JL_pd rfl (det_pick_t rfl h1 rfl) ?_
    refine JL_pd rfl (det_assign rfl) ?_
    refine JL_nil ?_
    refine JE_seq ?_
    refine JC_ret ?_
    refine JE_out (.inl rfl) () (results1 Try.results40 (res_tmp rfl)) ?_ (List.Perm.refl _) (fun _ _ => trivial)
    (simp_all [thin])
    (try (rw [Bool.eq_iff_iff]; simp))
    (try omega)
  · refine JL_skip rfl rfl h1 rfl ?_
    refine JL_skip rfl rfl h1 rfl ?_
    refine JL_skip rfl rfl h1 rfl ?_
    refine JL_skip rfl rfl h1 rfl ?_
    refine JL_pd rfl (det_pick_f rfl h1 rfl) ?_
    refine JL_pd rfl (det_assign rfl) ?_
    refine JL_nil ?_
    refine JE_seq ?_
    refine JC_ret ?_
    refine JE_out (.inl rfl) () (results1 Try.results40 (res_tmp rfl)) ?_ (List.Perm.refl _) (fun _ _ => trivial)
    (simp_all [thin])
    (try (rw [Bool.eq_iff_iff]; simp))
    (try omega)
theorem lfault_j (l : La) (ha pa : Option Addr) (hc pc : Nat) : Cv Try.prog 32 [.agg #[I l.boards, I l.rows, .slice ha l.hooks.length hc, .slice pa l.patches.length pc]] (KLane l ha hc pa pc) (I (fault l)) := by
  refine Cx_of Try.func32 rfl Try.ntmps32 rfl fun w0 M0 => ?_
  refine JC_seq ?_
  refine JC_region ?_
  refine JL_step rfl rfl rfl (jo_box rfl rfl) fun b1 => ?_
  refine JL_pd rfl (det_assign rfl) ?_
  refine JL_nil ?_
  refine JE_seq ?_
  refine JC_seq ?_
  refine JC_region ?_
  refine JL_dt rfl (det_loadKA rfl Try.isAgg25 Try.sizeOf25 rfl rfl) ?_
  refine JL_step rfl rfl rfl (jo_callv rfl rfl Try.call28 rfl (rFault_j l ha pa hc pc)) fun _ => ?_
  refine JL_pd rfl (det_assign rfl) ?_
  refine JL_nil ?_
  refine JE_seq ?_
  refine JC_ret ?_
  refine JE_out (.inl rfl) () (results1 Try.results32 (res_tmp rfl)) ?_ (List.Perm.refl _) (fun _ _ => trivial)
  rfl
theorem lstarted_j (l : La) (s : St) (ha pa : Option Addr) (hc pc : Nat) : Cv Try.prog 21 [.agg #[I l.boards, I l.rows, .slice ha l.hooks.length hc, .slice pa l.patches.length pc], .agg #[I s.b, I s.d]] (KLane l ha hc pa pc) (I (startErr l s)) := by
  refine Cx_of Try.func21 rfl Try.ntmps21 rfl fun w0 M0 => ?_
  refine JC_seq ?_
  refine JC_region ?_
  refine JL_step rfl rfl rfl (jo_box rfl rfl) fun b2 => ?_
  refine JL_step rfl rfl rfl (jo_box rfl rfl) fun b3 => ?_
  refine JL_pd rfl (det_assign rfl) ?_
  refine JL_nil ?_
  refine JE_seq ?_
  refine JC_seq ?_
  refine JC_seq ?_
  refine JC_region ?_
  refine JL_dt rfl (det_loadKA rfl Try.isAgg25 Try.sizeOf25 rfl rfl) ?_
  refine JL_step rfl rfl rfl (jo_callv rfl rfl Try.call32 rfl (lfault_j l ha pa hc pc)) fun _ => ?_
  refine JL_pd rfl (det_assign rfl) ?_
  refine JL_nil ?_
  refine JE_seq ?_
  refine JC_seq ?_
  refine JC_region ?_
  refine JL_pd rfl (det_move rfl) ?_
  refine JL_pd rfl (det_neq rfl rfl) ?_
  refine JL_nil ?_
  refine JE_seq ?_
  refine JC_cond rfl (fun h1 => ?_) (fun h1 => ?_)
  · refine JC_seq ?_
    refine JC_region ?_
    refine JL_pd rfl (det_move rfl) ?_
    refine JL_pd rfl (det_assign rfl) ?_
    refine JL_nil ?_
    refine JE_seq ?_
    refine JC_ret ?_
    refine JE_seq_ret ?_
    refine JE_out (.inl rfl) () (results1 Try.results21 (res_tmp rfl)) ?_ (List.Perm.refl _) (fun _ _ => trivial)
    (simp_all [startErr])
  · refine JC_skip ?_
    refine JE_seq ?_
    refine JC_seq ?_
    refine JC_seq ?_
    refine JC_region ?_
    refine JL_dt rfl (det_loadKA rfl Try.isAgg25 Try.sizeOf25 rfl rfl) ?_
    refine JL_dt rfl (det_loadKA rfl Try.isAgg27 Try.sizeOf27 rfl rfl) ?_
    refine JL_step rfl rfl rfl (jo_callv rfl rfl Try.call60 rfl (rIsStart_j l ha pa hc pc s)) fun _ => ?_
    refine JL_pd rfl (det_not rfl) ?_
    refine JL_nil ?_
    refine JE_seq ?_
    refine JC_cond rfl (fun h2 => ?_) (fun h2 => ?_)
    · refine JC_seq ?_
      refine JC_region ?_
      refine JL_pd rfl (det_assign rfl) ?_
      refine JL_nil ?_
      refine JE_seq ?_
      refine JC_ret ?_
      refine JE_seq_ret ?_
      refine JE_out (.inl rfl) () (results1 Try.results21 (res_tmp rfl)) ?_ (List.Perm.refl _) (fun _ _ => trivial)
      (simp_all [startErr])
    · refine JC_skip ?_
      refine JE_seq ?_
      refine JC_seq ?_
      refine JC_region ?_
      refine JL_pd rfl (det_assign rfl) ?_
      refine JL_nil ?_
      refine JE_seq ?_
      refine JC_ret ?_
      refine JE_out (.inl rfl) () (results1 Try.results21 (res_tmp rfl)) ?_ (List.Perm.refl _) (fun _ _ => trivial)
      (simp_all [startErr])
theorem lready_j (l : La) (s : St) (ha pa : Option Addr) (hc pc : Nat) : Cv Try.prog 36 [.agg #[I l.boards, I l.rows, .slice ha l.hooks.length hc, .slice pa l.patches.length pc], .agg #[I s.b, I s.d]] (KLane l ha hc pa pc) (.bool (thin l && decide (startErr l s = 0))) := by
  refine Cx_of Try.func36 rfl Try.ntmps36 rfl fun w0 M0 => ?_
  refine JC_seq ?_
  refine JC_region ?_
  refine JL_step rfl rfl rfl (jo_box rfl rfl) fun b2 => ?_
  refine JL_step rfl rfl rfl (jo_box rfl rfl) fun b3 => ?_
  refine JL_pd rfl (det_assign rfl) ?_
  refine JL_nil ?_
  refine JE_seq ?_
  refine JC_seq ?_
  refine JC_region ?_
  refine JL_dt rfl (det_loadKA rfl Try.isAgg25 Try.sizeOf25 rfl rfl) ?_
  refine JL_step rfl rfl rfl (jo_callv rfl rfl Try.call40 rfl (lThin_j l ha pa hc pc)) fun _ => ?_
  refine JL_pd rfl (det_move rfl) ?_
  refine JL_split (d0 := 7) rfl (fun h1 => ?_) (fun h1 => ?_)
  · refine JL_guard rfl rfl h1 ?_
    refine JL_dt rfl (det_loadKA rfl Try.isAgg25 Try.sizeOf25 rfl rfl) ?_
    refine JL_guard rfl rfl h1 ?_
    refine JL_dt rfl (det_loadKA rfl Try.isAgg27 Try.sizeOf27 rfl rfl) ?_
    refine JL_guard rfl rfl h1 ?_
    refine JL_step rfl rfl rfl (jo_callv rfl rfl Try.call21 rfl (lstarted_j l s ha pa hc pc)) fun _ => ?_
    refine JL_guard rfl rfl h1 ?_
    refine JL_pd rfl (det_eql rfl rfl) ?_
    refine JL_pd rfl (det_pick_t rfl h1 rfl) ?_
    refine JL_pd rfl (det_assign rfl) ?_
    refine JL_nil ?_
    refine JE_seq ?_
    refine JC_ret ?_
    refine JE_out (.inl rfl) () (results1 Try.results36 (res_tmp rfl)) ?_ (List.Perm.refl _) (fun _ _ => trivial)
    (simp_all)
  · refine JL_skip rfl rfl h1 rfl ?_
    refine JL_skip rfl rfl h1 rfl ?_
    refine JL_skip rfl rfl h1 rfl ?_
    refine JL_skip rfl rfl h1 rfl ?_
    refine JL_pd rfl (det_pick_f rfl h1 rfl) ?_
    refine JL_pd rfl (det_assign rfl) ?_
    refine JL_nil ?_
    refine JE_seq ?_
    refine JC_ret ?_
    refine JE_out (.inl rfl) () (results1 Try.results36 (res_tmp rfl)) ?_ (List.Perm.refl _) (fun _ _ => trivial)
    (simp_all)
end Go.Proofs.Ytcfhbnfincpehaa
