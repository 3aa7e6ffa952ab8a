/- Own texts, laid together: W1 W2 W3 W4 W5 W6. Nothing is asked. -/
import Derived.Test.YtcfhbnfincpehaaJF
import Derived.Test.YtcfhbnfincpehaaB1
import Derived.Test.YtcfhbnfincpehaaB3
import Derived.Test.YtcfhbnfincpehaaB2
set_option linter.unusedSimpArgs false
set_option linter.unusedVariables false
/- Walks of package path: ranges, lanes. -/
namespace Go.Proofs.Ytcfhbnfincpehaa
open Go.RowKit Go.Shelf
instance : Rec encRg 2 := ⟨encRg_len, by decide⟩
instance : Rec encPa 5 := ⟨encPa_len, by decide⟩
instance : Rec encSt 2 := ⟨encSt_len, by decide⟩
instance : Rec encI 1 := ⟨encI_len, by decide⟩

theorem within_j (n lo hi : Int) : Cv Try.prog 57 [I n, I lo, I hi] KTrue (.bool (decide (lo ≤ n ∧ n ≤ hi))) := by
  refine Cx_of Try.func57 rfl Try.ntmps57 rfl fun w0 M0 => ?_
  refine JC_seq ?_
  refine JC_region ?_
  refine JL_pd rfl (det_assign rfl) ?_
  refine JL_nil ?_
  refine JE_seq ?_
  refine JC_seq ?_
  refine JC_region ?_
  refine JL_pd rfl (det_move rfl) ?_
  refine JL_pd rfl (det_move rfl) ?_
  refine JL_pd rfl (det_leq rfl rfl) ?_
  refine JL_pd rfl (det_move rfl) ?_
  refine JL_split (d0 := 10) rfl (fun h1 => ?_) (fun h1 => ?_)
  · refine JL_guard rfl rfl h1 ?_
    refine JL_pd rfl (det_move rfl) ?_
    refine JL_guard rfl rfl h1 ?_
    refine JL_pd rfl (det_move rfl) ?_
    refine JL_guard rfl rfl h1 ?_
    refine JL_pd rfl (det_leq rfl rfl) ?_
    refine JL_pd rfl (det_pick_t rfl h1 rfl) ?_
    refine JL_pd rfl (det_assign rfl) ?_
    refine JL_nil ?_
    refine JE_seq ?_
    refine JC_ret ?_
    refine JE_out (.inl rfl) () (results1 Try.results57 (res_tmp rfl)) ?_ (List.Perm.refl _) (fun _ _ => trivial)
    (simp_all)
    (try omega)
  · refine JL_skip rfl rfl h1 rfl ?_
    refine JL_skip rfl rfl h1 rfl ?_
    refine JL_skip rfl rfl h1 rfl ?_
    refine JL_pd rfl (det_pick_f rfl h1 rfl) ?_
    refine JL_pd rfl (det_assign rfl) ?_
    refine JL_nil ?_
    refine JE_seq ?_
    refine JC_ret ?_
    refine JE_out (.inl rfl) () (results1 Try.results57 (res_tmp rfl)) ?_ (List.Perm.refl _) (fun _ _ => trivial)
    (simp_all)
    (try omega)
theorem has_j (r : Rg) (n : Int) : Cv Try.prog 81 [.agg #[I r.lo, I r.hi], I n] KTrue (.bool (inR n r)) := by
  refine Cx_of Try.func81 rfl Try.ntmps81 rfl fun w0 M0 => ?_
  refine JC_seq ?_
  refine JC_region ?_
  refine JL_step rfl rfl rfl (jo_box rfl rfl) fun b2 => ?_
  refine JL_pd rfl (det_assign rfl) ?_
  refine JL_nil ?_
  refine JE_seq ?_
  refine JC_seq ?_
  refine JC_region ?_
  refine JL_pd rfl (det_move rfl) ?_
  refine JL_pd rfl (det_fieldAddr rfl fo_49_0) ?_
  refine JL_dt rfl (det_loadK rfl Try.isAgg3 rfl) ?_
  refine JL_pd rfl (det_fieldAddr rfl fo_49_1) ?_
  refine JL_dt rfl (det_loadK rfl Try.isAgg3 rfl) ?_
  refine JL_step rfl rfl rfl (jo_callv rfl rfl Try.call57 rfl (within_j _ _ _)) fun _ => ?_
  refine JL_pd rfl (det_assign rfl) ?_
  refine JL_nil ?_
  refine JE_seq ?_
  refine JC_ret ?_
  refine JE_out (.inl rfl) () (results1 Try.results81 (res_tmp rfl)) ?_ (List.Perm.refl _) (fun _ _ => trivial)
  rfl
theorem inside_j (r : Rg) (lo hi : Int) : Cv Try.prog 95 [.agg #[I r.lo, I r.hi], I lo, I hi] KTrue (.bool (okRg r lo hi)) := by
  refine Cx_of Try.func95 rfl Try.ntmps95 rfl fun w0 M0 => ?_
  refine JC_seq ?_
  refine JC_region ?_
  refine JL_step rfl rfl rfl (jo_box rfl rfl) fun b3 => ?_
  refine JL_pd rfl (det_assign rfl) ?_
  refine JL_nil ?_
  refine JE_seq ?_
  refine JC_seq ?_
  refine JC_region ?_
  refine JL_pd rfl (det_move rfl) ?_
  refine JL_pd rfl (det_fieldAddr rfl fo_49_0) ?_
  refine JL_dt rfl (det_loadK rfl Try.isAgg3 rfl) ?_
  refine JL_pd rfl (det_leq rfl rfl) ?_
  refine JL_pd rfl (det_move rfl) ?_
  refine JL_split (d0 := 11) rfl (fun h1 => ?_) (fun h1 => ?_)
  · refine JL_guard rfl rfl h1 ?_
    refine JL_pd rfl (det_fieldAddr rfl fo_49_0) ?_
    refine JL_guard rfl rfl h1 ?_
    refine JL_dt rfl (det_loadK rfl Try.isAgg3 rfl) ?_
    refine JL_guard rfl rfl h1 ?_
    refine JL_pd rfl (det_fieldAddr rfl fo_49_1) ?_
    refine JL_guard rfl rfl h1 ?_
    refine JL_dt rfl (det_loadK rfl Try.isAgg3 rfl) ?_
    refine JL_guard rfl rfl h1 ?_
    refine JL_pd rfl (det_leq rfl rfl) ?_
    refine JL_pd rfl (det_pick_t rfl h1 rfl) ?_
    refine JL_pd rfl (det_move rfl) ?_
    refine JL_split (d0 := 18) rfl (fun h2 => ?_) (fun h2 => ?_)
    · refine JL_guard rfl rfl h2 ?_
      refine JL_pd rfl (det_fieldAddr rfl fo_49_1) ?_
      refine JL_guard rfl rfl h2 ?_
      refine JL_dt rfl (det_loadK rfl Try.isAgg3 rfl) ?_
      refine JL_guard rfl rfl h2 ?_
      refine JL_pd rfl (det_move rfl) ?_
      refine JL_guard rfl rfl h2 ?_
      refine JL_pd rfl (det_leq rfl rfl) ?_
      refine JL_pd rfl (det_pick_t rfl h2 rfl) ?_
      refine JL_pd rfl (det_assign rfl) ?_
      refine JL_nil ?_
      refine JE_seq ?_
      refine JC_ret ?_
      refine JE_out (.inl rfl) () (results1 Try.results95 (res_tmp rfl)) ?_ (List.Perm.refl _) (fun _ _ => trivial)
      (simp_all [okRg])
      (try omega)
    · refine JL_skip rfl rfl h2 rfl ?_
      refine JL_skip rfl rfl h2 rfl ?_
      refine JL_skip rfl rfl h2 rfl ?_
      refine JL_skip rfl rfl h2 rfl ?_
      refine JL_pd rfl (det_pick_f rfl h2 rfl) ?_
      refine JL_pd rfl (det_assign rfl) ?_
      refine JL_nil ?_
      refine JE_seq ?_
      refine JC_ret ?_
      refine JE_out (.inl rfl) () (results1 Try.results95 (res_tmp rfl)) ?_ (List.Perm.refl _) (fun _ _ => trivial)
      (simp_all [okRg])
      (try omega)
  · refine JL_skip rfl rfl h1 rfl ?_
    refine JL_skip rfl rfl h1 rfl ?_
    refine JL_skip rfl rfl h1 rfl ?_
    refine JL_skip rfl rfl h1 rfl ?_
    refine JL_skip rfl rfl h1 rfl ?_
    refine JL_pd rfl (det_pick_f rfl h1 rfl) ?_
    refine JL_pd rfl (det_move rfl) ?_
    refine JL_split (d0 := 18) rfl (fun h3 => ?_) (fun h3 => ?_)
    · refine JL_guard rfl rfl h3 ?_
      refine JL_pd rfl (det_fieldAddr rfl fo_49_1) ?_
      refine JL_guard rfl rfl h3 ?_
      refine JL_dt rfl (det_loadK rfl Try.isAgg3 rfl) ?_
      refine JL_guard rfl rfl h3 ?_
      refine JL_pd rfl (det_move rfl) ?_
      refine JL_guard rfl rfl h3 ?_
      refine JL_pd rfl (det_leq rfl rfl) ?_
      refine JL_pd rfl (det_pick_t rfl h3 rfl) ?_
      refine JL_pd rfl (det_assign rfl) ?_
      refine JL_nil ?_
      refine JE_seq ?_
      refine JC_ret ?_
      refine JE_out (.inl rfl) () (results1 Try.results95 (res_tmp rfl)) ?_ (List.Perm.refl _) (fun _ _ => trivial)
      (simp_all [okRg])
      (try omega)
    · refine JL_skip rfl rfl h3 rfl ?_
      refine JL_skip rfl rfl h3 rfl ?_
      refine JL_skip rfl rfl h3 rfl ?_
      refine JL_skip rfl rfl h3 rfl ?_
      refine JL_pd rfl (det_pick_f rfl h3 rfl) ?_
      refine JL_pd rfl (det_assign rfl) ?_
      refine JL_nil ?_
      refine JE_seq ?_
      refine JC_ret ?_
      refine JE_out (.inl rfl) () (results1 Try.results95 (res_tmp rfl)) ?_ (List.Perm.refl _) (fun _ _ => trivial)
      (simp_all [okRg])
      (try omega)
theorem hook_j (r : Rg) : Cv Try.prog 77 [.agg #[I r.lo, I r.hi]] KTrue (.bool (okRg r (-3) 3)) := by
  refine Cx_of Try.func77 rfl Try.ntmps77 rfl fun w0 M0 => ?_
  refine JC_seq ?_
  refine JC_region ?_
  refine JL_step rfl rfl rfl (jo_box rfl rfl) fun b1 => ?_
  refine JL_pd rfl (det_assign rfl) ?_
  refine JL_nil ?_
  refine JE_seq ?_
  refine JC_seq ?_
  refine JC_region ?_
  refine JL_dt rfl (det_loadKA rfl Try.isAgg49 Try.sizeOf49 rfl rfl) ?_
  refine JL_step rfl rfl rfl (jo_callv rfl rfl Try.call95 rfl (inside_j ⟨_, _⟩ _ _)) fun _ => ?_
  refine JL_pd rfl (det_assign rfl) ?_
  refine JL_nil ?_
  refine JE_seq ?_
  refine JC_ret ?_
  refine JE_out (.inl rfl) () (results1 Try.results77 (res_tmp rfl)) ?_ (List.Perm.refl _) (fun _ _ => trivial)
  rfl
theorem on_j (l : La) (ha pa : Option Addr) (hc pc : Nat) (s : St) : Cv Try.prog 65 [.agg #[I l.boards, I l.rows, .slice ha l.hooks.length hc, .slice pa l.patches.length pc], .agg #[I s.b, I s.d]] KTrue (.bool (onL l s)) := by
  refine Cx_of Try.func65 rfl Try.ntmps65 rfl fun w0 M0 => ?_
  refine JC_seq ?_
  refine JC_region ?_
  refine JL_step rfl rfl rfl (jo_box rfl rfl) fun b2 => ?_
  refine JL_step rfl rfl rfl (jo_box rfl rfl) fun b3 => ?_
  refine JL_pd rfl (det_assign rfl) ?_
  refine JL_nil ?_
  refine JE_seq ?_
  refine JC_seq ?_
  refine JC_region ?_
  refine JL_pd rfl (det_fieldAddr rfl fo_39_0) ?_
  refine JL_dt rfl (det_loadK rfl Try.isAgg3 rfl) ?_
  refine JL_pd rfl (det_fieldAddr rfl fo_37_0) ?_
  refine JL_dt rfl (det_loadK rfl Try.isAgg3 rfl) ?_
  refine JL_step rfl rfl rfl (jo_callv rfl rfl Try.call57 rfl (within_j _ _ _)) fun _ => ?_
  refine JL_pd rfl (det_assign rfl) ?_
  refine JL_nil ?_
  refine JE_seq ?_
  refine JC_ret ?_
  refine JE_out (.inl rfl) () (results1 Try.results65 (res_tmp rfl)) ?_ (List.Perm.refl _) (fun _ _ => trivial)
  rfl
theorem patch_j (l : La) (p : Pa) (ha pa : Option Addr) (hc pc : Nat) (h1 : 1 ≤ l.rows) (h2 : l.rows ≤ 12) (h3 : 0 < l.hooks.length) (h4 : l.hooks.length ≤ 4) :
    Cv Try.prog 79 [.agg #[I l.boards, I l.rows, .slice ha l.hooks.length hc, .slice pa l.patches.length pc], .agg #[I p.rows.lo, I p.rows.hi, I p.boards.lo, I p.boards.hi, I p.level]] KTrue (.bool (okPa l p)) := by
  refine Cx_of Try.func79 rfl Try.ntmps79 rfl fun w0 M0 => ?_
  refine JC_seq ?_
  refine JC_region ?_
  refine JL_step rfl rfl rfl (jo_box rfl rfl) fun b2 => ?_
  refine JL_step rfl rfl rfl (jo_box rfl rfl) fun b3 => ?_
  refine JL_pd rfl (det_assign rfl) ?_
  refine JL_nil ?_
  refine JE_seq ?_
  refine JC_seq ?_
  refine JC_region ?_
  refine JL_pd rfl (det_fieldAddr rfl fo_116_0) ?_
  refine JL_dt rfl (det_loadKA rfl Try.isAgg49 Try.sizeOf49 rfl rfl) ?_
  refine JL_pd rfl (det_fieldAddr rfl fo_37_1) ?_
  refine JL_dt rfl (det_loadK rfl Try.isAgg3 rfl) ?_
  refine JL_pd rfl (det_sub rfl rfl ⟨by omega, by omega⟩) ?_
  refine JL_step rfl rfl rfl (jo_callv rfl rfl Try.call95 rfl (inside_j ⟨_, _⟩ _ _)) fun _ => ?_
  refine JL_pd rfl (det_move rfl) ?_
  refine JL_split (d0 := 11) rfl (fun h1 => ?_) (fun h1 => ?_)
  · refine JL_guard rfl rfl h1 ?_
    refine JL_pd rfl (det_fieldAddr rfl fo_116_1) ?_
    refine JL_guard rfl rfl h1 ?_
    refine JL_dt rfl (det_loadKA rfl Try.isAgg49 Try.sizeOf49 rfl rfl) ?_
    refine JL_guard rfl rfl h1 ?_
    refine JL_pd rfl (det_fieldAddr rfl fo_37_0) ?_
    refine JL_guard rfl rfl h1 ?_
    refine JL_dt rfl (det_loadK rfl Try.isAgg3 rfl) ?_
    refine JL_guard rfl rfl h1 ?_
    refine JL_step rfl rfl rfl (jo_callv rfl rfl Try.call95 rfl (inside_j ⟨_, _⟩ _ _)) fun _ => ?_
    refine JL_pd rfl (det_pick_t rfl h1 rfl) ?_
    refine JL_pd rfl (det_move rfl) ?_
    refine JL_split (d0 := 18) rfl (fun h2 => ?_) (fun h2 => ?_)
    · refine JL_guard rfl rfl h2 ?_
      refine JL_pd rfl (det_fieldAddr rfl fo_116_2) ?_
      refine JL_guard rfl rfl h2 ?_
      refine JL_dt rfl (det_loadK rfl Try.isAgg3 rfl) ?_
      refine JL_guard rfl rfl h2 ?_
      refine JL_pd rfl (det_fieldAddr rfl fo_37_2) ?_
      refine JL_guard rfl rfl h2 ?_
      refine JL_dt rfl (det_loadK rfl Try.isAgg34 rfl) ?_
      refine JL_guard rfl rfl h2 ?_
      refine JL_pd rfl (det_len rfl Try.runUnderlying34) ?_
      refine JL_guard rfl rfl h2 ?_
      refine JL_pd rfl (det_sub rfl rfl ⟨by omega, by omega⟩) ?_
      refine JL_guard rfl rfl h2 ?_
      refine JL_step rfl rfl rfl (jo_callv rfl rfl Try.call57 rfl (within_j _ _ _)) fun _ => ?_
      refine JL_pd rfl (det_pick_t rfl h2 rfl) ?_
      refine JL_pd rfl (det_assign rfl) ?_
      refine JL_nil ?_
      refine JE_seq ?_
      refine JC_ret ?_
      refine JE_out (.inl rfl) () (results1 Try.results79 (res_tmp rfl)) ?_ (List.Perm.refl _) (fun _ _ => trivial)
      (simp_all [okPa])
    · refine JL_skip rfl rfl h2 rfl ?_
      refine JL_skip rfl rfl h2 rfl ?_
      refine JL_skip rfl rfl h2 rfl ?_
      refine JL_skip rfl rfl h2 rfl ?_
      refine JL_skip rfl rfl h2 rfl ?_
      refine JL_skip rfl rfl h2 rfl ?_
      refine JL_skip rfl rfl h2 rfl ?_
      refine JL_pd rfl (det_pick_f rfl h2 rfl) ?_
      refine JL_pd rfl (det_assign rfl) ?_
      refine JL_nil ?_
      refine JE_seq ?_
      refine JC_ret ?_
      refine JE_out (.inl rfl) () (results1 Try.results79 (res_tmp rfl)) ?_ (List.Perm.refl _) (fun _ _ => trivial)
      (simp_all [okPa])
  · refine JL_skip rfl rfl h1 rfl ?_
    refine JL_skip rfl rfl h1 rfl ?_
    refine JL_skip rfl rfl h1 rfl ?_
    refine JL_skip rfl rfl h1 rfl ?_
    refine JL_skip rfl rfl h1 rfl ?_
    refine JL_pd rfl (det_pick_f rfl h1 rfl) ?_
    refine JL_pd rfl (det_move rfl) ?_
    refine JL_split (d0 := 18) rfl (fun h3 => ?_) (fun h3 => ?_)
    · refine JL_guard rfl rfl h3 ?_
      refine JL_pd rfl (det_fieldAddr rfl fo_116_2) ?_
      refine JL_guard rfl rfl h3 ?_
      refine JL_dt rfl (det_loadK rfl Try.isAgg3 rfl) ?_
      refine JL_guard rfl rfl h3 ?_
      refine JL_pd rfl (det_fieldAddr rfl fo_37_2) ?_
      refine JL_guard rfl rfl h3 ?_
      refine JL_dt rfl (det_loadK rfl Try.isAgg34 rfl) ?_
      refine JL_guard rfl rfl h3 ?_
      refine JL_pd rfl (det_len rfl Try.runUnderlying34) ?_
      refine JL_guard rfl rfl h3 ?_
      refine JL_pd rfl (det_sub rfl rfl ⟨by omega, by omega⟩) ?_
      refine JL_guard rfl rfl h3 ?_
      refine JL_step rfl rfl rfl (jo_callv rfl rfl Try.call57 rfl (within_j _ _ _)) fun _ => ?_
      refine JL_pd rfl (det_pick_t rfl h3 rfl) ?_
      refine JL_pd rfl (det_assign rfl) ?_
      refine JL_nil ?_
      refine JE_seq ?_
      refine JC_ret ?_
      refine JE_out (.inl rfl) () (results1 Try.results79 (res_tmp rfl)) ?_ (List.Perm.refl _) (fun _ _ => trivial)
      (simp_all [okPa])
    · refine JL_skip rfl rfl h3 rfl ?_
      refine JL_skip rfl rfl h3 rfl ?_
      refine JL_skip rfl rfl h3 rfl ?_
      refine JL_skip rfl rfl h3 rfl ?_
      refine JL_skip rfl rfl h3 rfl ?_
      refine JL_skip rfl rfl h3 rfl ?_
      refine JL_skip rfl rfl h3 rfl ?_
      refine JL_pd rfl (det_pick_f rfl h3 rfl) ?_
      refine JL_pd rfl (det_assign rfl) ?_
      refine JL_nil ?_
      refine JE_seq ?_
      refine JC_ret ?_
      refine JE_out (.inl rfl) () (results1 Try.results79 (res_tmp rfl)) ?_ (List.Perm.refl _) (fun _ _ => trivial)
      (simp_all [okPa])
end Go.Proofs.Ytcfhbnfincpehaa

/- Walks of package path: follow, pockets, aimers, can. -/
namespace Go.Proofs.Ytcfhbnfincpehaa
open Go.RowKit Go.Shelf

/-- How the lists of a lane lie. -/
abbrev KLane (l : La) (ha : Option Addr) (hc : Nat) (pa : Option Addr) (pc : Nat) : World → Prop := KAnd (KSl ha l.hooks.length hc encRg l.hooks) (KSl pa l.patches.length pc encPa l.patches)
/-- How a ball lies. -/
def KBall (l : La) (ha : Option Addr) (hc : Nat) (pa : Option Addr) (pc g : Nat) : World → Prop := fun w => BallAt w l ha hc pa pc g
theorem KLane.at_ {l : La} {ha pa : Option Addr} {hc pc : Nat} {w : World} (h : KLane l ha hc pa pc w) : LaneAt w l ha hc pa pc := ⟨h.1.1, h.2.1⟩
theorem at_KLane {l : La} {ha pa : Option Addr} {hc pc : Nat} {w : World} (h : LaneAt w l ha hc pa pc) : KLane l ha hc pa pc w := ⟨⟨h.1, rfl⟩, ⟨h.2, rfl⟩⟩

theorem CheckLane_j (l : La) (ha pa : Option Addr) (hc pc : Nat) : Cv Try.prog 41 [.agg #[I l.boards, I l.rows, .slice ha l.hooks.length hc, .slice pa l.patches.length pc]] (KLane l ha hc pa pc) (I (fault l)) :=
  Cv_of fun w h => CheckLane_any l ha pa hc pc w h.at_
theorem ball_j (l : La) (ha pa : Option Addr) (hc pc : Nat) (V : Valid l) : Cr Try.prog 72 [.agg #[I l.boards, I l.rows, .slice ha l.hooks.length hc, .slice pa l.patches.length pc]] (KLane l ha hc pa pc) (fun g : Nat => .agg #[I l.boards, I l.rows, .slice ha l.hooks.length hc, .slice pa l.patches.length pc, .slice (some ⟨g, 0, none⟩) l.rows.toNat l.rows.toNat]) (fun g => KBall l ha hc pa pc g) :=
  Cr_of fun w h => (balls_any l ha pa hc pc w h.at_ V).mono fun e w' ⟨g, he, hg, hB, hb⟩ => ⟨g, he, hb, fun w2 h2 hz hn => by
    obtain ⟨h1, h3, cs, ⟨T, hx⟩, h4⟩ := hB
    exact ⟨h2.at_, h3, cs, ⟨T, (hn g hg (Array.getElem?_eq_some_iff.1 hx).1).trans hx⟩, h4⟩⟩
theorem hooks_j (l : La) (row : Int) (s : St) (ha pa : Option Addr) (hc pc g : Nat) (h1 : 0 ≤ row) (h2 : row < l.rows) (h3 : onL l s = true) :
    Cv Try.prog 80 [.agg #[I l.boards, I l.rows, .slice ha l.hooks.length hc, .slice pa l.patches.length pc, .slice (some ⟨g, 0, none⟩) l.rows.toNat l.rows.toNat], I row, .agg #[I s.b, I s.d]] (KBall l ha hc pa pc g) (.agg #[I (hookOf l row s.b).lo, I (hookOf l row s.b).hi]) :=
  Cv_of fun w h => hooks_any l row s ha pa hc pc g w h h1 h2 h3
theorem next_j (s : St) (t : Int) (h1 : -5 ≤ s.d) (h2 : s.d ≤ 5) (h3 : -3 ≤ t) (h4 : t ≤ 3) (h5 : -1000 ≤ s.b) (h6 : s.b ≤ 1000) : Cv Try.prog 82 [.agg #[I s.b, I s.d], I t] KTrue (.agg #[I (nextS s t).b, I (nextS s t).d]) :=
  Cv_of fun w _ => next_any s t w h1 h2 h3 h4 h5 h6

/-- follow: the iterator, over two boxes of its own. -/
theorem follow_j (l : La) (row : Int) (s : St) (ha pa : Option Addr) (hc pc g : Nat) (h1 : 0 ≤ row) (h2 : row < l.rows) (h3 : onL l s = true) :
    Cx Try.prog 66 [.agg #[I l.boards, I l.rows, .slice ha l.hooks.length hc, .slice pa l.patches.length pc, .slice (some ⟨g, 0, none⟩) l.rows.toNat l.rows.toNat], I row, .agg #[I s.b, I s.d]] [] (KBall l ha hc pa pc g) (fun p : Nat × Nat => .func (.func 88) #[] #[.pointer (some ⟨p.1, 0, none⟩), .pointer (some ⟨p.2, 0, none⟩)])
      (fun p => [bx p.1 [I (hookOf l row s.b).lo, I (hookOf l row s.b).hi], bx p.2 [I s.b, I s.d]]) (fun _ => KTrue) := by
  refine Cx_of Try.func66 rfl Try.ntmps66 rfl fun w0 M0 => ?_
  refine JC_seq ?_
  refine JC_region ?_
  refine JL_step rfl rfl rfl (jo_box rfl rfl) fun b3 => ?_
  refine JL_step rfl rfl rfl (jo_box rfl rfl) fun b5 => ?_
  refine JL_pd rfl (det_assign rfl) ?_
  refine JL_nil ?_
  refine JE_seq ?_
  refine JC_seq ?_
  refine JC_region ?_
  refine JL_dt rfl (det_loadKA rfl Try.isAgg107 Try.sizeOf107 rfl rfl) ?_
  refine JL_pd rfl (det_move rfl) ?_
  refine JL_dt rfl (det_loadKA rfl Try.isAgg39 Try.sizeOf39 rfl rfl) ?_
  -- stop: op  3 t11 := (call (Call (value f80) (t8 t9 t10) (107 3 39)))   <0 1 2>   114
  refine JL_step rfl rfl rfl (jo_callv rfl rfl Try.call80 rfl (hooks_j l row s ha pa hc pc g h1 h2 h3)) fun _ => ?_
  refine JL_step rfl rfl rfl (jo_alloc0 Try.zeroValue49 rfl) fun b7 => ?_
  refine JL_step0 rfl rfl (jo_store rfl rfl rfl (by first | (simp only [splice_norm]; done) | (simp only [splice_norm]; rfl) | rfl) Try.sizeOf49 rfl rfl) fun _ => ?_
  refine JL_nil ?_
  refine JE_seq ?_
  refine JC_seq ?_
  refine JC_region ?_
  refine JL_pd rfl (det_makeFuncE rfl rfl) ?_
  refine JL_pd rfl (det_assign rfl) ?_
  refine JL_nil ?_
  refine JE_seq ?_
  refine JC_ret ?_
  -- stop: out
  refine JE_out (.inl rfl) (b7, b5) (results1 Try.results66 (res_tmp rfl)) rfl (List.Perm.refl _) (fun _ _ => trivial)

theorem hit_j (p : Pk) (arrived : Bool) (s : St) : Cv Try.prog 91 [.agg #[I p.boards.lo, I p.boards.hi, I p.dirs.lo, I p.dirs.hi], .bool arrived, .agg #[I s.b, I s.d]] KTrue (.bool (hitsP p arrived s)) := by
  refine Cx_of Try.func91 rfl Try.ntmps91 rfl fun w0 M0 => ?_
  refine JC_seq ?_
  refine JC_region ?_
  refine JL_step rfl rfl rfl (jo_box rfl rfl) fun b3 => ?_
  refine JL_step rfl rfl rfl (jo_box rfl rfl) fun b5 => ?_
  refine JL_pd rfl (det_assign rfl) ?_
  refine JL_nil ?_
  refine JE_seq ?_
  refine JC_seq ?_
  refine JC_region ?_
  refine JL_pd rfl (det_move rfl) ?_
  refine JL_pd rfl (det_move rfl) ?_
  refine JL_split (d0 := 8) rfl (fun h1 => ?_) (fun h1 => ?_)
  · refine JL_guard rfl rfl h1 ?_
    refine JL_pd rfl (det_fieldAddr rfl fo_62_0) ?_
    refine JL_guard rfl rfl h1 ?_
    refine JL_dt rfl (det_loadKA rfl Try.isAgg49 Try.sizeOf49 rfl rfl) ?_
    refine JL_guard rfl rfl h1 ?_
    refine JL_pd rfl (det_fieldAddr rfl fo_39_0) ?_
    refine JL_guard rfl rfl h1 ?_
    refine JL_dt rfl (det_loadK rfl Try.isAgg3 rfl) ?_
    refine JL_guard rfl rfl h1 ?_
    refine JL_step rfl rfl rfl (jo_callv rfl rfl Try.call81 rfl (has_j ⟨_, _⟩ _)) fun _ => ?_
    refine JL_pd rfl (det_pick_t rfl h1 rfl) ?_
    refine JL_pd rfl (det_move rfl) ?_
    refine JL_split (d0 := 15) rfl (fun h2 => ?_) (fun h2 => ?_)
    · refine JL_guard rfl rfl h2 ?_
      refine JL_pd rfl (det_fieldAddr rfl fo_62_1) ?_
      refine JL_guard rfl rfl h2 ?_
      refine JL_dt rfl (det_loadKA rfl Try.isAgg49 Try.sizeOf49 rfl rfl) ?_
      refine JL_guard rfl rfl h2 ?_
      refine JL_pd rfl (det_fieldAddr rfl fo_39_1) ?_
      refine JL_guard rfl rfl h2 ?_
      refine JL_dt rfl (det_loadK rfl Try.isAgg3 rfl) ?_
      refine JL_guard rfl rfl h2 ?_
      refine JL_step rfl rfl rfl (jo_callv rfl rfl Try.call81 rfl (has_j ⟨_, _⟩ _)) fun _ => ?_
      refine JL_pd rfl (det_pick_t rfl h2 rfl) ?_
      refine JL_pd rfl (det_assign rfl) ?_
      refine JL_nil ?_
      refine JE_seq ?_
      refine JC_ret ?_
      refine JE_out (.inl rfl) () (results1 Try.results91 (res_tmp rfl)) ?_ (List.Perm.refl _) (fun _ _ => trivial)
      (first | (simp_all [hitsP, inR]; done) | (simp_all [hitsP, inR]; grind))
    · refine JL_skip rfl rfl h2 rfl ?_
      refine JL_skip rfl rfl h2 rfl ?_
      refine JL_skip rfl rfl h2 rfl ?_
      refine JL_skip rfl rfl h2 rfl ?_
      refine JL_skip rfl rfl h2 rfl ?_
      refine JL_pd rfl (det_pick_f rfl h2 rfl) ?_
      refine JL_pd rfl (det_assign rfl) ?_
      refine JL_nil ?_
      refine JE_seq ?_
      refine JC_ret ?_
      refine JE_out (.inl rfl) () (results1 Try.results91 (res_tmp rfl)) ?_ (List.Perm.refl _) (fun _ _ => trivial)
      (first | (simp_all [hitsP, inR]; done) | (simp_all [hitsP, inR]; grind))
  · refine JL_skip rfl rfl h1 rfl ?_
    refine JL_skip rfl rfl h1 rfl ?_
    refine JL_skip rfl rfl h1 rfl ?_
    refine JL_skip rfl rfl h1 rfl ?_
    refine JL_skip rfl rfl h1 rfl ?_
    refine JL_pd rfl (det_pick_f rfl h1 rfl) ?_
    refine JL_pd rfl (det_move rfl) ?_
    refine JL_split (d0 := 15) rfl (fun h3 => ?_) (fun h3 => ?_)
    · refine JL_guard rfl rfl h3 ?_
      refine JL_pd rfl (det_fieldAddr rfl fo_62_1) ?_
      refine JL_guard rfl rfl h3 ?_
      refine JL_dt rfl (det_loadKA rfl Try.isAgg49 Try.sizeOf49 rfl rfl) ?_
      refine JL_guard rfl rfl h3 ?_
      refine JL_pd rfl (det_fieldAddr rfl fo_39_1) ?_
      refine JL_guard rfl rfl h3 ?_
      refine JL_dt rfl (det_loadK rfl Try.isAgg3 rfl) ?_
      refine JL_guard rfl rfl h3 ?_
      refine JL_step rfl rfl rfl (jo_callv rfl rfl Try.call81 rfl (has_j ⟨_, _⟩ _)) fun _ => ?_
      refine JL_pd rfl (det_pick_t rfl h3 rfl) ?_
      refine JL_pd rfl (det_assign rfl) ?_
      refine JL_nil ?_
      refine JE_seq ?_
      refine JC_ret ?_
      refine JE_out (.inl rfl) () (results1 Try.results91 (res_tmp rfl)) ?_ (List.Perm.refl _) (fun _ _ => trivial)
      (first | (simp_all [hitsP, inR]; done) | (simp_all [hitsP, inR]; grind))
    · refine JL_skip rfl rfl h3 rfl ?_
      refine JL_skip rfl rfl h3 rfl ?_
      refine JL_skip rfl rfl h3 rfl ?_
      refine JL_skip rfl rfl h3 rfl ?_
      refine JL_skip rfl rfl h3 rfl ?_
      refine JL_pd rfl (det_pick_f rfl h3 rfl) ?_
      refine JL_pd rfl (det_assign rfl) ?_
      refine JL_nil ?_
      refine JE_seq ?_
      refine JC_ret ?_
      refine JE_out (.inl rfl) () (results1 Try.results91 (res_tmp rfl)) ?_ (List.Perm.refl _) (fun _ _ => trivial)
      (first | (simp_all [hitsP, inR]; done) | (simp_all [hitsP, inR]; grind))
theorem miss_j (p : Pk) (arrived : Bool) (s : St) : Cv Try.prog 92 [.agg #[I p.boards.lo, I p.boards.hi, I p.dirs.lo, I p.dirs.hi], .bool arrived, .agg #[I s.b, I s.d]] KTrue (.bool (!hitsP p arrived s)) := by
  refine Cx_of Try.func92 rfl Try.ntmps92 rfl fun w0 M0 => ?_
  refine JC_seq ?_
  refine JC_region ?_
  refine JL_step rfl rfl rfl (jo_box rfl rfl) fun b3 => ?_
  refine JL_step rfl rfl rfl (jo_box rfl rfl) fun b5 => ?_
  refine JL_pd rfl (det_assign rfl) ?_
  refine JL_nil ?_
  refine JE_seq ?_
  refine JC_seq ?_
  refine JC_region ?_
  refine JL_dt rfl (det_loadKA rfl Try.isAgg62 Try.sizeOf62 rfl rfl) ?_
  refine JL_pd rfl (det_move rfl) ?_
  refine JL_dt rfl (det_loadKA rfl Try.isAgg39 Try.sizeOf39 rfl rfl) ?_
  refine JL_step rfl rfl rfl (jo_callv rfl rfl Try.call91 rfl (hit_j ⟨⟨_, _⟩, ⟨_, _⟩⟩ _ ⟨_, _⟩)) fun _ => ?_
  refine JL_pd rfl (det_not rfl) ?_
  refine JL_pd rfl (det_assign rfl) ?_
  refine JL_nil ?_
  refine JE_seq ?_
  refine JC_ret ?_
  refine JE_out (.inl rfl) () (results1 Try.results92 (res_tmp rfl)) ?_ (List.Perm.refl _) (fun _ _ => trivial)
  rfl
theorem valid_j (p : Pk) : Cv Try.prog 71 [.agg #[I p.boards.lo, I p.boards.hi, I p.dirs.lo, I p.dirs.hi]] KTrue (.bool (isPocket p)) := by
  refine Cx_of Try.func71 rfl Try.ntmps71 rfl fun w0 M0 => ?_
  refine JC_seq ?_
  refine JC_region ?_
  refine JL_step rfl rfl rfl (jo_box rfl rfl) fun b1 => ?_
  refine JL_pd rfl (det_assign rfl) ?_
  refine JL_nil ?_
  refine JE_seq ?_
  refine JC_seq ?_
  refine JC_region ?_
  refine JL_pd rfl (det_fieldAddr rfl fo_62_0) ?_
  refine JL_pd rfl (det_fieldAddr rfl fo_49_0) ?_
  refine JL_dt rfl (det_loadK rfl Try.isAgg3 rfl) ?_
  refine JL_pd rfl (det_fieldAddr rfl fo_62_0) ?_
  refine JL_pd rfl (det_fieldAddr rfl fo_49_1) ?_
  refine JL_dt rfl (det_loadK rfl Try.isAgg3 rfl) ?_
  refine JL_pd rfl (det_leq rfl rfl) ?_
  refine JL_pd rfl (det_move rfl) ?_
  refine JL_split (d0 := 10) rfl (fun h1 => ?_) (fun h1 => ?_)
  · refine JL_guard rfl rfl h1 ?_
    refine JL_pd rfl (det_fieldAddr rfl fo_62_1) ?_
    refine JL_guard rfl rfl h1 ?_
    refine JL_pd rfl (det_fieldAddr rfl fo_49_0) ?_
    refine JL_guard rfl rfl h1 ?_
    refine JL_dt rfl (det_loadK rfl Try.isAgg3 rfl) ?_
    refine JL_guard rfl rfl h1 ?_
    refine JL_pd rfl (det_fieldAddr rfl fo_62_1) ?_
    refine JL_guard rfl rfl h1 ?_
    refine JL_pd rfl (det_fieldAddr rfl fo_49_1) ?_
    refine JL_guard rfl rfl h1 ?_
    refine JL_dt rfl (det_loadK rfl Try.isAgg3 rfl) ?_
    refine JL_guard rfl rfl h1 ?_
    refine JL_pd rfl (det_leq rfl rfl) ?_
    refine JL_pd rfl (det_pick_t rfl h1 rfl) ?_
    refine JL_pd rfl (det_assign rfl) ?_
    refine JL_nil ?_
    refine JE_seq ?_
    refine JC_ret ?_
    refine JE_out (.inl rfl) () (results1 Try.results71 (res_tmp rfl)) ?_ (List.Perm.refl _) (fun _ _ => trivial)
    (first | (simp_all [isPocket]; done) | (simp_all [isPocket]; grind))
  · refine JL_skip rfl rfl h1 rfl ?_
    refine JL_skip rfl rfl h1 rfl ?_
    refine JL_skip rfl rfl h1 rfl ?_
    refine JL_skip rfl rfl h1 rfl ?_
    refine JL_skip rfl rfl h1 rfl ?_
    refine JL_skip rfl rfl h1 rfl ?_
    refine JL_skip rfl rfl h1 rfl ?_
    refine JL_pd rfl (det_pick_f rfl h1 rfl) ?_
    refine JL_pd rfl (det_assign rfl) ?_
    refine JL_nil ?_
    refine JE_seq ?_
    refine JC_ret ?_
    refine JE_out (.inl rfl) () (results1 Try.results71 (res_tmp rfl)) ?_ (List.Perm.refl _) (fun _ _ => trivial)
    (first | (simp_all [isPocket]; done) | (simp_all [isPocket]; grind))

/-- An aimer's cells. -/
abbrev aimCs (l : La) (p : Pk) (ha : Option Addr) (hc : Nat) (pa : Option Addr) (pc g F mb : Nat) : List Value := [I l.boards, I l.rows, .slice ha l.hooks.length hc, .slice pa l.patches.length pc, .slice (some ⟨g, 0, none⟩) l.rows.toNat l.rows.toNat, I p.boards.lo, I p.boards.hi, I p.dirs.lo, I p.dirs.hi, .func (.func F) #[] #[], .map (some mb)]
/-- Whether a ball has a truth with an end: n rows before the last one. -/
def canN (l : La) (en : Bool → St → Bool) : Nat → Int → St → Bool
  | 0, _, s => en (onL l s) s
  | n + 1, row, s => if onL l s = true then (stepsOf l row s).any (canN l en n (row + 1)) else en false s
/-- What an aimer remembers is so. -/
def GoodM (l : La) (en : Bool → St → Bool) (m : Int × St → Option Bool) : Prop := ∀ k v, m k = some v → v = canN l en (l.rows - 1 - k.1).toNat k.1 k.2
abbrev Memo (l : La) (en : Bool → St → Bool) := { m : Int × St → Option Bool // GoodM l en m }
abbrev encTl {hk : Rg} {s : St} (x : Turned hk s) : List Value := [I x.1.1, .agg #[I x.1.2.b, I x.1.2.d]]

theorem GoodM.upd {l : La} {en : Bool → St → Bool} {m : Int × St → Option Bool} (h : GoodM l en m) {row : Int} {s : St} {v : Bool} (hv : v = canN l en (l.rows - 1 - row).toNat row s) : GoodM l en (Go.Proofs.Ytcfhbnfincpehaa.upd m (row, s) v) := by
  intro k u hu
  by_cases e : k = (row, s)
  · subst e; simp [Go.Proofs.Ytcfhbnfincpehaa.upd] at hu; rw [← hu, hv]
  · simp [Go.Proofs.Ytcfhbnfincpehaa.upd, e] at hu; exact h k u hu
set_option maxRecDepth 100000 in
theorem can_j (l : La) (p : Pk) (ha pa : Option Addr) (hc pc g A F mb : Nat) (en : Bool → St → Bool) (V : Valid l) (eg : ∀ args w, (callFunc F args).run Try.prog w = .ok (.enter F args) w)
    (hE : ∀ (b : Bool) (s : St), Cv Try.prog F [.agg #[I p.boards.lo, I p.boards.hi, I p.dirs.lo, I p.dirs.hi], .bool b, .agg #[I s.b, I s.d]] KTrue (.bool (en b s))) :
    ∀ (n : Nat) (row : Int) (s : St) (m : Memo l en), row + n = l.rows - 1 → 0 ≤ row → -5 ≤ s.d → s.d ≤ 5 →
      Cx Try.prog 74 [.pointer (some ⟨A, 0, none⟩), I row, .agg #[I s.b, I s.d]] [mp mb ekSp vB m.1] (KAnd (KBox A (aimCs l p ha hc pa pc g F mb)) (KBall l ha hc pa pc g))
        (fun _ : Memo l en => .bool (canN l en n row s)) (fun m' => [mp mb ekSp vB m'.1]) (fun _ => KTrue) := by
  intro n
  induction n using Nat.strongRecOn
  rename_i n IH
  intro row s m hn h0 d1 d2
  have r1 := V.r1
  have r2 := V.r2
  refine Cx_of Try.func74 rfl Try.ntmps74 rfl fun w0 M0 => ?_
  refine JC_seq ?_
  refine JC_region ?_
  refine JL_step rfl rfl rfl (jo_box rfl rfl) fun b3 => ?_
  refine JL_step rfl rfl rfl (jo_box rfl rfl) fun b4 => ?_
  refine JL_step rfl rfl rfl (jo_box rfl rfl) fun b5 => ?_
  refine JL_pd rfl (det_assign rfl) ?_
  refine JL_nil ?_
  refine JE_seq ?_
  refine JC_seq ?_
  refine JC_seq ?_
  refine JC_draw [] (by kernel_rfl) ?_
  refine JA_dt (i := 0) rfl (by kernel_rfl) (by kernel_rfl) rfl rfl (det_loadK rfl Try.isAgg133 rfl) ?_
  refine JA_pd (i := 1) rfl (by kernel_rfl) rfl rfl (det_nilCheck rfl) ?_
  refine JA_pd (i := 2) rfl (by kernel_rfl) rfl rfl (det_fieldAddr rfl fo_159_0) ?_
  refine JA_pd (i := 3) rfl (by kernel_rfl) rfl rfl (det_fieldAddr rfl fo_107_0) ?_
  refine JA_dt (i := 4) rfl (by kernel_rfl) (by kernel_rfl) rfl rfl (det_loadKA rfl Try.isAgg37 Try.sizeOf37 rfl rfl) ?_
  refine JA_dt (i := 5) rfl (by kernel_rfl) (by kernel_rfl) rfl rfl (det_loadKA rfl Try.isAgg39 Try.sizeOf39 rfl rfl) ?_
  -- stop: op  6 t18 := (call (Call (value f65) (t16 t17) (37 39)))   <4 5>   34
  refine JA_one (i := 6) (by kernel_rfl) rfl rfl (jo_callv rfl rfl Try.call65 rfl (on_j l ha pa hc pc s)) (fun _ => ⟨hsub_refl, fun _ h => h⟩) fun _ => ?_
  refine JA_pd (i := 7) rfl (by kernel_rfl) rfl rfl (det_not rfl) ?_
  refine JA_done (by kernel_rfl) ?_
  refine JE_seq ?_
  -- stop: cond
  refine JC_cond rfl (fun hon => ?_) (fun hon => ?_)
  · refine JC_seq ?_
    refine JC_draw [] (by kernel_rfl) ?_
    refine JA_dt (i := 0) rfl (by kernel_rfl) (by kernel_rfl) rfl rfl (det_loadK rfl Try.isAgg133 rfl) ?_
    refine JA_pd (i := 1) rfl (by kernel_rfl) rfl rfl (det_nilCheck rfl) ?_
    refine JA_pd (i := 2) rfl (by kernel_rfl) rfl rfl (det_fieldAddr rfl fo_159_2) ?_
    refine JA_pd (i := 3) rfl (by kernel_rfl) rfl rfl (det_fieldAddr rfl fo_156_0) ?_
    refine JA_dt (i := 4) rfl (by kernel_rfl) (by kernel_rfl) rfl rfl (det_loadK rfl Try.isAgg153 rfl) ?_
    refine JA_dt (i := 5) rfl (by kernel_rfl) (by kernel_rfl) rfl rfl (det_loadK rfl Try.isAgg133 rfl) ?_
    refine JA_pd (i := 6) rfl (by kernel_rfl) rfl rfl (det_nilCheck rfl) ?_
    refine JA_pd (i := 7) rfl (by kernel_rfl) rfl rfl (det_fieldAddr rfl fo_159_1) ?_
    refine JA_dt (i := 8) rfl (by kernel_rfl) (by kernel_rfl) rfl rfl (det_loadKA rfl Try.isAgg62 Try.sizeOf62 rfl rfl) ?_
    refine JA_dt (i := 9) rfl (by kernel_rfl) (by kernel_rfl) rfl rfl (det_loadKA rfl Try.isAgg39 Try.sizeOf39 rfl rfl) ?_
    -- stop: op 10 t30 := (call (Call (value t24) (t28 (bool false) t29) (62 4 39)))   <4 8 9>   35
    refine JA_one (i := 10) (by kernel_rfl) rfl rfl (jo_callv rfl rfl eg rfl (hE false s)) (fun _ => ⟨hsub_refl, fun _ h => h⟩) fun _ => ?_
    refine JA_pd (i := 11) rfl (by kernel_rfl) rfl rfl (det_assign rfl) ?_
    refine JA_done (by kernel_rfl) ?_
    refine JE_seq ?_
    refine JC_ret ?_
    refine JE_seq_ret ?_
    -- stop: out
    refine JE_out (.inl rfl) m (results1 Try.results74 (res_tmp rfl)) (by cases n <;> simp_all [canN]) pick_perm (fun _ _ => trivial)
  · refine JC_skip ?_
    refine JE_seq ?_
    refine JC_seq ?_
    refine JC_seq ?_
    refine JC_draw [] (by kernel_rfl) ?_
    refine JA_dt (i := 0) rfl (by kernel_rfl) (by kernel_rfl) rfl rfl (det_loadK rfl Try.isAgg3 rfl) ?_
    refine JA_dt (i := 1) rfl (by kernel_rfl) (by kernel_rfl) rfl rfl (det_loadK rfl Try.isAgg133 rfl) ?_
    refine JA_pd (i := 2) rfl (by kernel_rfl) rfl rfl (det_nilCheck rfl) ?_
    refine JA_pd (i := 3) rfl (by kernel_rfl) rfl rfl (det_fieldAddr rfl fo_159_0) ?_
    refine JA_pd (i := 4) rfl (by kernel_rfl) rfl rfl (det_fieldAddr rfl fo_107_0) ?_
    refine JA_pd (i := 5) rfl (by kernel_rfl) rfl rfl (det_fieldAddr rfl fo_37_1) ?_
    refine JA_dt (i := 6) rfl (by kernel_rfl) (by kernel_rfl) rfl rfl (det_loadK rfl Try.isAgg3 rfl) ?_
    refine JA_pd (i := 7) rfl (by kernel_rfl) rfl rfl (det_sub rfl rfl ⟨by omega, by omega⟩) ?_
    refine JA_pd (i := 8) rfl (by kernel_rfl) rfl rfl (det_eql rfl rfl) ?_
    refine JA_done (by kernel_rfl) ?_
    refine JE_seq ?_
    -- stop: cond
    simp only [Bool.not_eq_false'] at hon
    -- stop: cond
    refine JC_if rfl (fun hlast => ?_) (fun hlast => ?_)
    · refine JC_seq ?_
      refine JC_draw [] (by kernel_rfl) ?_
      refine JA_dt (i := 0) rfl (by kernel_rfl) (by kernel_rfl) rfl rfl (det_loadK rfl Try.isAgg133 rfl) ?_
      refine JA_pd (i := 1) rfl (by kernel_rfl) rfl rfl (det_nilCheck rfl) ?_
      refine JA_pd (i := 2) rfl (by kernel_rfl) rfl rfl (det_fieldAddr rfl fo_159_2) ?_
      refine JA_pd (i := 3) rfl (by kernel_rfl) rfl rfl (det_fieldAddr rfl fo_156_0) ?_
      refine JA_dt (i := 4) rfl (by kernel_rfl) (by kernel_rfl) rfl rfl (det_loadK rfl Try.isAgg153 rfl) ?_
      refine JA_dt (i := 5) rfl (by kernel_rfl) (by kernel_rfl) rfl rfl (det_loadK rfl Try.isAgg133 rfl) ?_
      refine JA_pd (i := 6) rfl (by kernel_rfl) rfl rfl (det_nilCheck rfl) ?_
      refine JA_pd (i := 7) rfl (by kernel_rfl) rfl rfl (det_fieldAddr rfl fo_159_1) ?_
      refine JA_dt (i := 8) rfl (by kernel_rfl) (by kernel_rfl) rfl rfl (det_loadKA rfl Try.isAgg62 Try.sizeOf62 rfl rfl) ?_
      refine JA_dt (i := 9) rfl (by kernel_rfl) (by kernel_rfl) rfl rfl (det_loadKA rfl Try.isAgg39 Try.sizeOf39 rfl rfl) ?_
      -- stop: op 10 t50 := (call (Call (value t44) (t48 (bool true) t49) (62 4 39)))   <4 8 9>   38
      refine JA_one (i := 10) (by kernel_rfl) rfl rfl (jo_callv rfl rfl eg rfl (hE true s)) (fun _ => ⟨hsub_refl, fun _ h => h⟩) fun _ => ?_
      refine JA_pd (i := 11) rfl (by kernel_rfl) rfl rfl (det_assign rfl) ?_
      refine JA_done (by kernel_rfl) ?_
      refine JE_seq ?_
      refine JC_ret ?_
      refine JE_seq_ret ?_
      -- stop: out
      obtain rfl : n = 0 := by omega
      refine JE_out (.inl rfl) m (results1 Try.results74 (res_tmp rfl)) (by simp [canN, hon]) pick_perm (fun _ _ => trivial)
    · refine JC_skip ?_
      refine JE_seq ?_
      refine JC_seq ?_
      refine JC_region ?_
      refine JL_dt rfl (det_loadK rfl Try.isAgg3 rfl) ?_
      refine JL_dt rfl (det_loadKA rfl Try.isAgg39 Try.sizeOf39 rfl rfl) ?_
      refine JL_pd rfl (det_build rfl (bld_126_0_1 _ _ _)) ?_
      refine JL_step rfl rfl rfl (jo_alloc0 Try.zeroValue126 rfl) fun b7 => ?_
      refine JL_step0 rfl rfl (jo_store rfl rfl rfl (by first | (simp only [splice_norm]; done) | (simp only [splice_norm]; rfl) | rfl) Try.sizeOf126 rfl rfl) fun _ => ?_
      refine JL_nil ?_
      refine JE_seq ?_
      refine JC_seq ?_
      refine JC_draw [10] (by kernel_rfl) ?_
      refine JA_dt (i := 0) rfl (by kernel_rfl) (by kernel_rfl) rfl rfl (det_loadK rfl Try.isAgg133 rfl) ?_
      refine JA_pd (i := 1) rfl (by kernel_rfl) rfl rfl (det_nilCheck rfl) ?_
      refine JA_pd (i := 2) rfl (by kernel_rfl) rfl rfl (det_fieldAddr rfl fo_159_3) ?_
      refine JA_dt (i := 3) rfl (by kernel_rfl) (by kernel_rfl) rfl rfl (det_loadK rfl Try.isAgg157 rfl) ?_
      refine JA_dt (i := 4) rfl (by kernel_rfl) (by kernel_rfl) rfl rfl (det_loadKA rfl Try.isAgg126 Try.sizeOf126 rfl rfl) ?_
      -- stop: op  5 t60 := (lookup 157 t58 t59 true)   <3 4>   41
      obtain ⟨n, rfl⟩ : ∃ k, n = k + 1 := ⟨n - 1, by omega⟩
      have hrw : (l.rows - 1 - row).toNat = n + 1 := by omega
      rcases hmk : m.1 (row, s) with _ | v
      · skip
        refine JA_dt (i := 5) rfl (by kernel_rfl) (by kernel_rfl) rfl rfl (det_lookup2N hmk rfl rfl goodSp Try.underlying157 Try.zeroValue4) ?_
        refine JA_pd (i := 6) rfl (by kernel_rfl) rfl rfl (det_move rfl) ?_
        refine JA_pd (i := 7) rfl (by kernel_rfl) rfl rfl (det_extract rfl rfl) ?_
        refine JA_pd (i := 8) rfl (by kernel_rfl) rfl rfl (det_extract rfl rfl) ?_
        refine JA_one (i := 9) (by kernel_rfl) rfl rfl (jo_alloc0 Try.zeroValue4 rfl) (fun _ => ⟨hsub_drop 1 rfl, fun _ h => h⟩) fun b8 => ?_
        refine JA_tail (i := 10) (by kernel_rfl) rfl rfl rfl rfl (jo_store rfl rfl rfl (by first | (simp only [splice_norm]; done) | (simp only [splice_norm]; rfl) | rfl) Try.sizeOf4 rfl rfl) fun _ => ?_
        refine JT_pd (i := 11) rfl (by kernel_rfl) rfl rfl (det_assign rfl) ?_
        refine JT_done (by kernel_rfl) ?_
        refine JE_seq ?_
        refine JC_seq ?_
        refine JC_seq ?_
        refine JC_region ?_
        refine JL_pd rfl (det_move rfl) ?_
        refine JL_nil ?_
        refine JE_seq ?_
        -- stop: cond
        refine JC_cond rfl (fun hno => ?_) (fun hno => ?_)
        · refine JC_seq ?_
          refine JC_region ?_
          refine JL_dt rfl (det_loadK rfl Try.isAgg4 rfl) ?_
          refine JL_pd rfl (det_assign rfl) ?_
          refine JL_nil ?_
          refine JE_seq ?_
          refine JC_ret ?_
          refine JE_seq_ret ?_
          -- stop: out
          cases hno
        · refine JC_skip ?_
          refine JE_seq ?_
          refine JC_seq ?_
          refine JC_seq ?_
          refine JC_draw [] (by kernel_rfl) ?_
          refine JA_dt (i := 0) rfl (by kernel_rfl) (by kernel_rfl) rfl rfl (det_loadK rfl Try.isAgg133 rfl) ?_
          refine JA_pd (i := 1) rfl (by kernel_rfl) rfl rfl (det_nilCheck rfl) ?_
          refine JA_pd (i := 2) rfl (by kernel_rfl) rfl rfl (det_fieldAddr rfl fo_159_0) ?_
          refine JA_dt (i := 3) rfl (by kernel_rfl) (by kernel_rfl) rfl rfl (det_loadKA rfl Try.isAgg107 Try.sizeOf107 rfl rfl) ?_
          refine JA_dt (i := 4) rfl (by kernel_rfl) (by kernel_rfl) rfl rfl (det_loadK rfl Try.isAgg3 rfl) ?_
          refine JA_dt (i := 5) rfl (by kernel_rfl) (by kernel_rfl) rfl rfl (det_loadKA rfl Try.isAgg39 Try.sizeOf39 rfl rfl) ?_
          -- stop: op  6 t71 := (call (Call (value f66) (t68 t69 t70) (107 3 39)))   <3 4 5>   45
          clear hno
          refine JA_one (i := 6) (by kernel_rfl) rfl rfl (jo_callx rfl rfl Try.call66 rfl (follow_j l row s ha pa hc pc g h0 (by omega) hon) ((List.Perm.refl _))) (fun _ => ⟨hsub_drop 2 rfl, fun _ h => h.2⟩) fun ⟨hb, sb⟩ => ?_
          refine JA_done (by kernel_rfl) ?_
          refine JE_seq ?_
          refine JC_block ?_
          -- stop: rangeFunc
          have Hhk := hookOf_bd V row s.b
          have hlb : 1 ≤ s.b ∧ s.b ≤ l.boards := by simpa [onL] using hon
          have hb2 := V.b2
          refine JC_range (γ := Memo l en × Bool) (β := Nat) rfl rfl rfl rfl enter_follow (perm2 (mp mb ekSp vB m.1) (bx b8 [.bool false])) (encTl (hk := hookOf l row s.b) (s := s))
            (fun xs => xs.map (fun x => x.1.1) = turnsOf (hookOf l row s.b)) (fun pre => ∃ k, k ≤ (turnsOf (hookOf l row s.b)).length ∧ pre.map (fun x => x.1.1) = (turnsOf (hookOf l row s.b)).take k) (turnsOf (hookOf l row s.b)).length [hb, sb]
            (fun w hD _ => follow_stops (hookOf l row s.b) s hb sb w Hhk.1 Hhk.2.2 d1 d2 (by omega) (by omega) (BoxK.know (R := saysAll _) (b := hb) w hD) (BoxK.know (R := saysAll _) (b := sb) w hD)) ?_ (fun _ => rfl) ?_
            (fun pre g => g.2 = false ∧ ∀ x ∈ pre, canN l en n (row + 1) x.1.2 = false) (fun cd pre g => cd = .exit 0 ∧ g.2 = true ∧ ∃ x ∈ pre, canN l en n (row + 1) x.1.2 = true)
            (fun g => [mp mb ekSp vB g.1.1, bx b8 [.bool g.2]]) (m, false) ?_ rfl ?_ ?_ (fun x t => [(11, pt t), (3, pt b3), (4, pt b4), (8, pt b8)]) (fun x t => [bx t [I x.1.2.b, I x.1.2.d]]) ?_ ?_ ?_ ?_ ?_
          · intro b hb'; simp only [List.mem_cons, List.not_mem_nil, or_false] at hb'; rcases hb' with rfl | rfl
            · exact ⟨bx b [I (hookOf l row s.b).lo, I (hookOf l row s.b).hi], by simp, rfl⟩
            · exact ⟨bx b [I s.b, I s.d], by simp, rfl⟩
          · show ∀ p ∈ [72, 73], p < 86
            decide
          · exact ⟨rfl, by simp⟩
          · rintro pre g _ c hc b hb
            simp only [List.mem_cons, List.not_mem_nil, or_false] at hc
            rcases hc with rfl | rfl
            · exact ⟨mp mb ekSp vB m.1, by simp, hb⟩
            · exact ⟨bx b8 [.bool false], by simp, hb⟩
          · rintro cd pre g _ c hc
            refine .inr fun b hb => ?_
            simp only [List.mem_cons, List.not_mem_nil, or_false] at hc
            rcases hc with rfl | rfl
            · exact ⟨mp mb ekSp vB m.1, by simp, hb⟩
            · exact ⟨bx b8 [.bool false], by simp, hb⟩
          · intro x t c hc; simp only [List.mem_cons, List.not_mem_nil, or_false] at hc; subst hc; exact bx_cellish _ _
          · intro l' x W K0 hK0
            refine JC_region ?_
            refine JL_step rfl rfl rfl (jo_alloc0 Try.zeroValue39 rfl) fun b11 => ?_
            refine JL_step0 rfl rfl (jo_store rfl rfl rfl (by first | (simp only [splice_norm]; done) | (simp only [splice_norm]; rfl) | rfl) Try.sizeOf39 rfl rfl) fun _ => ?_
            refine JL_nil ?_
            -- stop: end
            exact JE_asg (hK0 b11) (stsub_cons rfl (stsub_cons rfl (stsub_cons rfl (stsub_cons rfl stsub_nil)))) (hsub_cons hsub_nil) (fun _ h => trivial)
          · rintro l' pre x ⟨m1, is⟩ t W K1 QX ⟨hi1, hno⟩ hlen hK hX
            obtain rfl : is = false := hi1
            refine JC_block ?_
            refine JC_seq ?_
            refine JC_region ?_
            refine JL_dt rfl (det_loadK rfl Try.isAgg133 rfl) ?_
            refine JL_dt rfl (det_loadK rfl Try.isAgg3 rfl) ?_
            refine JL_pd rfl (det_add rfl rfl ⟨by omega, by omega⟩) ?_
            refine JL_dt rfl (det_loadKA rfl Try.isAgg39 Try.sizeOf39 rfl rfl) ?_
            -- stop: op  4 t78 := (call (Call (value f74) (t74 t76 t77) (133 3 39)))   <0 2 3>   46
            refine JL_step rfl rfl rfl (jo_callx rfl rfl Try.call74 rfl (IH n (by omega) (row + 1) x.1.2 m1 (by omega) (by omega) (by rw [x.2.2.2]; exact (nextS_d _ _).1) (by rw [x.2.2.2]; exact (nextS_d _ _).2)) (pick_perm)) fun m2 => ?_
            refine JL_nil ?_
            refine JE_seq ?_
            -- stop: cond
            refine JC_cond rfl (fun hcan => ?_) (fun hcan => ?_)
            · refine JC_seq ?_
              refine JC_region ?_
              refine JL_step0 rfl rfl (jo_store rfl rfl rfl (by first | (simp only [splice_norm]; done) | (simp only [splice_norm]; rfl) | rfl) Try.sizeOf4 rfl rfl) fun _ => ?_
              refine JL_nil ?_
              refine JE_seq ?_
              refine JC_exit ?_
              refine JE_block_on rfl ?_
              refine JE_then_exit ?_
              -- stop: out
              refine JE_leave (fun st' R' a' W' => hX (.exit 0) (.exit 0) (m2, true) rfl ⟨rfl, rfl, x, by simp, hcan⟩ st' R' a' W') (hsub_cons (hsub_cons hsub_nil))
            · refine JC_skip ?_
              refine JE_block ?_
              -- stop: end
              refine JE_next (fun st' R' a' W' => hK (m2, false) ⟨rfl, fun y hy => ?_⟩ st' R' a' W') (hsub_cons (hsub_cons hsub_nil))
              rcases List.mem_append.1 hy with hy | hy
              · exact hno y hy
              · rw [List.mem_singleton.1 hy]; exact hcan
          · rintro xs ⟨m1, is⟩ hS ⟨hi1, hno⟩
            obtain rfl : is = false := hi1
            have hres : canN l en (n + 1) row s = false := by
              have : (stepsOf l row s).any (canN l en n (row + 1)) = false := by
                rw [List.any_eq_false]
                intro t ht
                cases hc : canN l en n (row + 1) t
                · simp
                · obtain ⟨x, hx, h⟩ := (seen_iff hS (fun u => canN l en n (row + 1) u = true)).2 ⟨t, ht, hc⟩
                  rw [hno x hx] at h; cases h
              simp [canN, hon, this]
            refine JE_block ?_
            refine JE_seq ?_
            refine JC_seq ?_
            refine JC_draw [6] (by kernel_rfl) ?_
            refine JA_dt (i := 0) rfl (by kernel_rfl) (by kernel_rfl) rfl rfl (det_loadK rfl Try.isAgg133 rfl) ?_
            refine JA_pd (i := 1) rfl (by kernel_rfl) rfl rfl (det_nilCheck rfl) ?_
            refine JA_pd (i := 2) rfl (by kernel_rfl) rfl rfl (det_fieldAddr rfl fo_159_3) ?_
            refine JA_dt (i := 3) rfl (by kernel_rfl) (by kernel_rfl) rfl rfl (det_loadK rfl Try.isAgg157 rfl) ?_
            refine JA_dt (i := 4) rfl (by kernel_rfl) (by kernel_rfl) rfl rfl (det_loadKA rfl Try.isAgg126 Try.sizeOf126 rfl rfl) ?_
            refine JA_dt (i := 5) rfl (by kernel_rfl) (by kernel_rfl) rfl rfl (det_loadK rfl Try.isAgg4 rfl) ?_
            -- stop: op  6 _ := (mapUpdate 157 t82 t83 t84)   <3 4 5>   51
            refine JA_tail (i := 6) (by kernel_rfl) rfl rfl rfl rfl (jo_mapUpdate (row, s) false (.inl rfl) rfl rfl rfl goodSp Try.underlying157) fun _ => ?_
            refine JT_done (by kernel_rfl) ?_
            refine JE_seq ?_
            refine JC_seq ?_
            refine JC_region ?_
            refine JL_dt rfl (det_loadK rfl Try.isAgg4 rfl) ?_
            refine JL_pd rfl (det_assign rfl) ?_
            refine JL_nil ?_
            refine JE_seq ?_
            refine JC_ret ?_
            -- stop: out
            refine JE_out (.inl rfl) ⟨upd m1.1 (row, s) false, m1.2.upd (by rw [hrw, hres])⟩ (results1 Try.results74 (res_tmp rfl)) (by rw [hres]) pick_perm (fun _ _ => trivial)
          · rintro cd pre ⟨m1, is⟩ hS ⟨rfl, hi1, x, hx, hcan⟩
            obtain rfl : is = true := hi1
            have hres : canN l en (n + 1) row s = true := by
              have : (stepsOf l row s).any (canN l en n (row + 1)) = true := by
                rw [List.any_eq_true]
                refine ⟨x.1.2, ?_, hcan⟩
                rw [x.2.2.2]
                exact List.mem_map.2 ⟨x.1.1, mem_turnsOf.2 ⟨x.2.1, x.2.2.1⟩, rfl⟩
              simp [canN, hon, this]
            refine JC_exit ?_
            refine JE_block_here ?_
            refine JE_seq ?_
            refine JC_seq ?_
            refine JC_draw [6] (by kernel_rfl) ?_
            refine JA_dt (i := 0) rfl (by kernel_rfl) (by kernel_rfl) rfl rfl (det_loadK rfl Try.isAgg133 rfl) ?_
            refine JA_pd (i := 1) rfl (by kernel_rfl) rfl rfl (det_nilCheck rfl) ?_
            refine JA_pd (i := 2) rfl (by kernel_rfl) rfl rfl (det_fieldAddr rfl fo_159_3) ?_
            refine JA_dt (i := 3) rfl (by kernel_rfl) (by kernel_rfl) rfl rfl (det_loadK rfl Try.isAgg157 rfl) ?_
            refine JA_dt (i := 4) rfl (by kernel_rfl) (by kernel_rfl) rfl rfl (det_loadKA rfl Try.isAgg126 Try.sizeOf126 rfl rfl) ?_
            refine JA_dt (i := 5) rfl (by kernel_rfl) (by kernel_rfl) rfl rfl (det_loadK rfl Try.isAgg4 rfl) ?_
            -- stop: op  6 _ := (mapUpdate 157 t82 t83 t84)   <3 4 5>   51
            refine JA_tail (i := 6) (by kernel_rfl) rfl rfl rfl rfl (jo_mapUpdate (row, s) true (.inl rfl) rfl rfl rfl goodSp Try.underlying157) fun _ => ?_
            refine JT_done (by kernel_rfl) ?_
            refine JE_seq ?_
            refine JC_seq ?_
            refine JC_region ?_
            refine JL_dt rfl (det_loadK rfl Try.isAgg4 rfl) ?_
            refine JL_pd rfl (det_assign rfl) ?_
            refine JL_nil ?_
            refine JE_seq ?_
            refine JC_ret ?_
            -- stop: out
            refine JE_out (.inl rfl) ⟨upd m1.1 (row, s) true, m1.2.upd (by rw [hrw, hres])⟩ (results1 Try.results74 (res_tmp rfl)) (by rw [hres]) pick_perm (fun _ _ => trivial)
      · skip
        refine JA_dt (i := 5) rfl (by kernel_rfl) (by kernel_rfl) rfl rfl (det_lookup2S hmk rfl rfl goodSp Try.underlying157 Try.zeroValue4) ?_
        refine JA_pd (i := 6) rfl (by kernel_rfl) rfl rfl (det_move rfl) ?_
        refine JA_pd (i := 7) rfl (by kernel_rfl) rfl rfl (det_extract rfl rfl) ?_
        refine JA_pd (i := 8) rfl (by kernel_rfl) rfl rfl (det_extract rfl rfl) ?_
        refine JA_one (i := 9) (by kernel_rfl) rfl rfl (jo_alloc0 Try.zeroValue4 rfl) (fun _ => ⟨hsub_drop 1 rfl, fun _ h => h⟩) fun b8 => ?_
        refine JA_tail (i := 10) (by kernel_rfl) rfl rfl rfl rfl (jo_store rfl rfl rfl (by first | (simp only [splice_norm]; done) | (simp only [splice_norm]; rfl) | rfl) Try.sizeOf4 rfl rfl) fun _ => ?_
        refine JT_pd (i := 11) rfl (by kernel_rfl) rfl rfl (det_assign rfl) ?_
        refine JT_done (by kernel_rfl) ?_
        refine JE_seq ?_
        refine JC_seq ?_
        refine JC_seq ?_
        refine JC_region ?_
        refine JL_pd rfl (det_move rfl) ?_
        refine JL_nil ?_
        refine JE_seq ?_
        -- stop: cond
        refine JC_cond rfl (fun hno => ?_) (fun hno => ?_)
        · refine JC_seq ?_
          refine JC_region ?_
          refine JL_dt rfl (det_loadK rfl Try.isAgg4 rfl) ?_
          refine JL_pd rfl (det_assign rfl) ?_
          refine JL_nil ?_
          refine JE_seq ?_
          refine JC_ret ?_
          refine JE_seq_ret ?_
          -- stop: out
          refine JE_out (.inl rfl) m (results1 Try.results74 (res_tmp rfl)) (by rw [m.2 _ _ hmk]; rw [show (l.rows - 1 - (row, s).1).toNat = n + 1 from by show (l.rows - 1 - row).toNat = _; omega]) pick_perm (fun _ _ => trivial)
        · refine JC_skip ?_
          refine JE_seq ?_
          refine JC_seq ?_
          refine JC_seq ?_
          refine JC_draw [] (by kernel_rfl) ?_
          refine JA_dt (i := 0) rfl (by kernel_rfl) (by kernel_rfl) rfl rfl (det_loadK rfl Try.isAgg133 rfl) ?_
          refine JA_pd (i := 1) rfl (by kernel_rfl) rfl rfl (det_nilCheck rfl) ?_
          refine JA_pd (i := 2) rfl (by kernel_rfl) rfl rfl (det_fieldAddr rfl fo_159_0) ?_
          refine JA_dt (i := 3) rfl (by kernel_rfl) (by kernel_rfl) rfl rfl (det_loadKA rfl Try.isAgg107 Try.sizeOf107 rfl rfl) ?_
          refine JA_dt (i := 4) rfl (by kernel_rfl) (by kernel_rfl) rfl rfl (det_loadK rfl Try.isAgg3 rfl) ?_
          refine JA_dt (i := 5) rfl (by kernel_rfl) (by kernel_rfl) rfl rfl (det_loadKA rfl Try.isAgg39 Try.sizeOf39 rfl rfl) ?_
          -- stop: op  6 t71 := (call (Call (value f66) (t68 t69 t70) (107 3 39)))   <3 4 5>   45
          cases hno
end Go.Proofs.Ytcfhbnfincpehaa

/- Walks of package path: aimed, aimers, Hits, Aims. -/
namespace Go.Proofs.Ytcfhbnfincpehaa
open Go.RowKit Go.Shelf

abbrev ballNil : Value := .agg #[I 0, I 0, .slice none 0 0, .slice none 0 0, .slice none 0 0]
theorem started_je (l : La) (s : St) (ha pa : Option Addr) (hc pc : Nat) (he : startErr l s ≠ 0) : Cv Try.prog 56 [.agg #[I l.boards, I l.rows, .slice ha l.hooks.length hc, .slice pa l.patches.length pc], .agg #[I s.b, I s.d]] (KLane l ha hc pa pc) (.tuple #[ballNil, I (startErr l s)]) :=
  Cv_of fun w h => started_err l s ha pa hc pc w h.at_ he
theorem started_jo (l : La) (s : St) (ha pa : Option Addr) (hc pc : Nat) (he : startErr l s = 0) : Cr Try.prog 56 [.agg #[I l.boards, I l.rows, .slice ha l.hooks.length hc, .slice pa l.patches.length pc], .agg #[I s.b, I s.d]] (KLane l ha hc pa pc) (fun g : Nat => .tuple #[.agg #[I l.boards, I l.rows, .slice ha l.hooks.length hc, .slice pa l.patches.length pc, .slice (some ⟨g, 0, none⟩) l.rows.toNat l.rows.toNat], I 0]) (fun g => KBall l ha hc pa pc g) :=
  Cr_of fun w h => (started_ok l s ha pa hc pc w h.at_ he).mono fun e w' ⟨g, he, hg, hB, hb⟩ => ⟨g, he, hb, fun w2 h2 hz hn => by
    obtain ⟨h1, h3, cs, ⟨T, hx⟩, h4⟩ := hB
    exact ⟨h2.at_, h3, cs, ⟨T, (hn g hg (Array.getElem?_eq_some_iff.1 hx).1).trans hx⟩, h4⟩⟩
theorem aimers_j (l : La) (p : Pk) (ha pa : Option Addr) (hc pc g : Nat) :
    Cx Try.prog 73 [.agg #[I l.boards, I l.rows, .slice ha l.hooks.length hc, .slice pa l.patches.length pc, .slice (some ⟨g, 0, none⟩) l.rows.toNat l.rows.toNat], .agg #[I p.boards.lo, I p.boards.hi, I p.dirs.lo, I p.dirs.hi]] [] KTrue (fun q : (Nat × Nat) × Nat × Nat => .tuple #[pt q.1.1, pt q.1.2])
      (fun q => [mp q.2.1 ekSp vB (fun _ => none), mp q.2.2 ekSp vB (fun _ => none)]) (fun q => KAnd (KBox q.1.1 (aimCs l p ha hc pa pc g 91 q.2.1)) (KBox q.1.2 (aimCs l p ha hc pa pc g 92 q.2.2))) :=
  Cx_new fun w _ => (aimers_any l p ha pa hc pc g w).mono fun e w' ⟨A1, A2, m1, m2, he, hx1, hx2, hm1, hm2, n1, n2, n3, n4, hne, hb⟩ => ⟨((A1, A2), m1, m2), he, hb, fun c hc => by
      simp only [List.mem_cons, List.not_mem_nil, or_false] at hc
      rcases hc with rfl | rfl
      · exact ⟨mp_holds hm1, fun b hb => by cases hb; exact n3⟩
      · exact ⟨mp_holds hm2, fun b hb => by cases hb; exact n4⟩, by
      simp only [List.pairwise_cons, List.mem_singleton, List.not_mem_nil, false_implies, implies_true, List.Pairwise.nil, and_true]
      rintro c rfl b hb hb'
      cases hb; exact hne hb', fun w2 _ hz hn => ⟨by
        obtain ⟨T, hx⟩ := hx1
        refine ⟨T, (hn A1 n1 (Array.getElem?_eq_some_iff.1 hx).1 fun c hc hcb => ?_).trans hx⟩
        simp only [List.mem_cons, List.not_mem_nil, or_false] at hc
        rcases hc with rfl | rfl
        · cases hcb; exact hm1.no_box ⟨T, hx⟩ rfl
        · cases hcb; exact hm2.no_box ⟨T, hx⟩ rfl, by
        obtain ⟨T, hx⟩ := hx2
        refine ⟨T, (hn A2 n2 (Array.getElem?_eq_some_iff.1 hx).1 fun c hc hcb => ?_).trans hx⟩
        simp only [List.mem_cons, List.not_mem_nil, or_false] at hc
        rcases hc with rfl | rfl
        · cases hcb; exact hm1.no_box ⟨T, hx⟩ rfl
        · cases hcb; exact hm2.no_box ⟨T, hx⟩ rfl⟩⟩

/-- The error of a lane with a start and a pocket. -/
def aimErr (l : La) (s : St) (p : Pk) : Int := if startErr l s ≠ 0 then startErr l s else if isPocket p then 0 else 2
theorem aimed_je (l : La) (s : St) (p : Pk) (ha pa : Option Addr) (hc pc : Nat) (he : aimErr l s p ≠ 0) : Cv Try.prog 83 [.agg #[I l.boards, I l.rows, .slice ha l.hooks.length hc, .slice pa l.patches.length pc], .agg #[I s.b, I s.d], .agg #[I p.boards.lo, I p.boards.hi, I p.dirs.lo, I p.dirs.hi]] (KLane l ha hc pa pc) (.tuple #[ballNil, I (aimErr l s p)]) := by
  by_cases h0 : startErr l s = 0
  · refine Cx_of Try.func83 rfl Try.ntmps83 rfl fun w0 M0 => ?_
    refine JC_seq ?_
    refine JC_region ?_
    refine JL_step rfl rfl rfl (jo_box rfl rfl) fun b3 => ?_
    refine JL_step rfl rfl rfl (jo_box rfl rfl) fun b4 => ?_
    refine JL_step rfl rfl rfl (jo_box rfl rfl) fun b5 => ?_
    refine JL_step rfl rfl rfl (jo_alloc0 Try.zeroValue107 rfl) fun b6 => ?_
    refine JL_pd rfl (det_assign rfl) ?_
    refine JL_nil ?_
    refine JE_seq ?_
    refine JC_seq ?_
    refine JC_region ?_
    refine JL_dt rfl (det_loadKA rfl Try.isAgg37 Try.sizeOf37 rfl rfl) ?_
    refine JL_dt rfl (det_loadKA rfl Try.isAgg39 Try.sizeOf39 rfl rfl) ?_
    -- stop: op  2 t13 := (call (Call (value f56) (t11 t12) (37 39)))   <0 1>   65
    refine JL_step rfl rfl rfl (jo_call rfl rfl Try.call56 rfl (started_jo l s ha pa hc pc h0)) fun g => ?_
    refine JL_pd rfl (det_move rfl) ?_
    refine JL_pd rfl (det_extract rfl rfl) ?_
    refine JL_pd rfl (det_extract rfl rfl) ?_
    refine JL_step rfl rfl rfl (jo_alloc0 Try.zeroValue107 rfl) fun b8 => ?_
    refine JL_step0 rfl rfl (jo_store rfl rfl rfl (by first | (simp only [splice_norm]; done) | (simp only [splice_norm]; rfl) | rfl) Try.sizeOf107 rfl rfl) fun _ => ?_
    refine JL_pd rfl (det_assign rfl) ?_
    refine JL_nil ?_
    refine JE_seq ?_
    refine JC_seq ?_
    refine JC_block ?_
    refine JC_seq ?_
    refine JC_region ?_
    refine JL_pd rfl (det_move rfl) ?_
    refine JL_pd rfl (det_neq rfl rfl) ?_
    refine JL_pd rfl (det_assign rfl) ?_
    refine JL_nil ?_
    refine JE_seq ?_
    -- stop: cond
    refine JC_ifn rfl (fun h1 => ?_) (fun h1 => ?_)
    · refine JC_seq ?_
      refine JC_region ?_
      refine JL_pd rfl (det_build rfl (bld_107)) ?_
      refine JL_pd rfl (det_move rfl) ?_
      refine JL_step0 rfl rfl (jo_store rfl rfl rfl (by first | (simp only [splice_norm]; done) | (simp only [splice_norm]; rfl) | rfl) Try.sizeOf107 rfl rfl) fun _ => ?_
      refine JL_pd rfl (det_assign rfl) ?_
      refine JL_nil ?_
      refine JE_seq ?_
      refine JC_ret ?_
      refine JE_block_ret ?_
      refine JE_seq_ret ?_
      -- stop: out
      exact absurd rfl h1
    · refine JC_seq ?_
      refine JC_region ?_
      refine JL_dt rfl (det_loadKA rfl Try.isAgg62 Try.sizeOf62 rfl rfl) ?_
      -- stop: op  1 t23 := (call (Call (value f71) (t22) (62)))   <0>   69
      refine JL_step rfl rfl rfl (jo_callv rfl rfl Try.call71 rfl (valid_j p)) fun _ => ?_
      refine JL_pd rfl (det_not rfl) ?_
      refine JL_pd rfl (det_assign rfl) ?_
      refine JL_nil ?_
      refine JE_seq ?_
      -- stop: cond
      have hp : isPocket p = false := by
        cases h : isPocket p
        · rfl
        · simp [aimErr, h0, h] at he
      refine JC_cond rfl (fun h2 => ?_) (fun h2 => ?_)
      · refine JC_seq ?_
        refine JC_region ?_
        refine JL_pd rfl (det_build rfl (bld_107)) ?_
        refine JL_step0 rfl rfl (jo_store rfl rfl rfl (by first | (simp only [splice_norm]; done) | (simp only [splice_norm]; rfl) | rfl) Try.sizeOf107 rfl rfl) fun _ => ?_
        refine JL_pd rfl (det_assign rfl) ?_
        refine JL_nil ?_
        refine JE_seq ?_
        refine JC_ret ?_
        refine JE_block_ret ?_
        refine JE_seq_ret ?_
        -- stop: out
        refine JE_out (.inl rfl) () (results2 Try.results83 (res_box rfl Try.isAgg107 Try.sizeOf107 rfl) (res_tmp rfl)) (by simp [aimErr, h0, hp]) (List.Perm.refl _) (fun _ _ => trivial)
      · refine JC_skip ?_
        refine JE_block ?_
        refine JE_seq ?_
        refine JC_seq ?_
        refine JC_region ?_
        refine JL_dt rfl (det_loadKA rfl Try.isAgg107 Try.sizeOf107 rfl rfl) ?_
        refine JL_step0 rfl rfl (jo_store rfl rfl rfl (by first | (simp only [splice_norm]; done) | (simp only [splice_norm]; rfl) | rfl) Try.sizeOf107 rfl rfl) fun _ => ?_
        refine JL_pd rfl (det_assign rfl) ?_
        refine JL_nil ?_
        refine JE_seq ?_
        refine JC_ret ?_
        -- stop: out
        simp [hp] at h2
  · refine Cx_of Try.func83 rfl Try.ntmps83 rfl fun w0 M0 => ?_
    refine JC_seq ?_
    refine JC_region ?_
    refine JL_step rfl rfl rfl (jo_box rfl rfl) fun b3 => ?_
    refine JL_step rfl rfl rfl (jo_box rfl rfl) fun b4 => ?_
    refine JL_step rfl rfl rfl (jo_box rfl rfl) fun b5 => ?_
    refine JL_step rfl rfl rfl (jo_alloc0 Try.zeroValue107 rfl) fun b6 => ?_
    refine JL_pd rfl (det_assign rfl) ?_
    refine JL_nil ?_
    refine JE_seq ?_
    refine JC_seq ?_
    refine JC_region ?_
    refine JL_dt rfl (det_loadKA rfl Try.isAgg37 Try.sizeOf37 rfl rfl) ?_
    refine JL_dt rfl (det_loadKA rfl Try.isAgg39 Try.sizeOf39 rfl rfl) ?_
    -- stop: op  2 t13 := (call (Call (value f56) (t11 t12) (37 39)))   <0 1>   65
    refine JL_step rfl rfl rfl (jo_callv rfl rfl Try.call56 rfl (started_je l s ha pa hc pc h0)) fun _ => ?_
    refine JL_pd rfl (det_move rfl) ?_
    refine JL_pd rfl (det_extract rfl rfl) ?_
    refine JL_pd rfl (det_extract rfl rfl) ?_
    refine JL_step rfl rfl rfl (jo_alloc0 Try.zeroValue107 rfl) fun b8 => ?_
    refine JL_step0 rfl rfl (jo_store rfl rfl rfl (by first | (simp only [splice_norm]; done) | (simp only [splice_norm]; rfl) | rfl) Try.sizeOf107 rfl rfl) fun _ => ?_
    refine JL_pd rfl (det_assign rfl) ?_
    refine JL_nil ?_
    refine JE_seq ?_
    refine JC_seq ?_
    refine JC_block ?_
    refine JC_seq ?_
    refine JC_region ?_
    refine JL_pd rfl (det_move rfl) ?_
    refine JL_pd rfl (det_neq rfl rfl) ?_
    refine JL_pd rfl (det_assign rfl) ?_
    refine JL_nil ?_
    refine JE_seq ?_
    -- stop: cond
    refine JC_ifn rfl (fun h1 => ?_) (fun h1 => ?_)
    · refine JC_seq ?_
      refine JC_region ?_
      refine JL_pd rfl (det_build rfl (bld_107)) ?_
      refine JL_pd rfl (det_move rfl) ?_
      refine JL_step0 rfl rfl (jo_store rfl rfl rfl (by first | (simp only [splice_norm]; done) | (simp only [splice_norm]; rfl) | rfl) Try.sizeOf107 rfl rfl) fun _ => ?_
      refine JL_pd rfl (det_assign rfl) ?_
      refine JL_nil ?_
      refine JE_seq ?_
      refine JC_ret ?_
      refine JE_block_ret ?_
      refine JE_seq_ret ?_
      -- stop: out
      refine JE_out (.inl rfl) () (results2 Try.results83 (res_box rfl Try.isAgg107 Try.sizeOf107 rfl) (res_tmp rfl)) (by simp [aimErr, h0]) (List.Perm.refl _) (fun _ _ => trivial)
    · refine JC_seq ?_
      refine JC_region ?_
      refine JL_dt rfl (det_loadKA rfl Try.isAgg62 Try.sizeOf62 rfl rfl) ?_
      -- stop: op  1 t23 := (call (Call (value f71) (t22) (62)))   <0>   69
      exact absurd h1 h0
theorem aimed_jo (l : La) (s : St) (p : Pk) (ha pa : Option Addr) (hc pc : Nat) (he : aimErr l s p = 0) : Cr Try.prog 83 [.agg #[I l.boards, I l.rows, .slice ha l.hooks.length hc, .slice pa l.patches.length pc], .agg #[I s.b, I s.d], .agg #[I p.boards.lo, I p.boards.hi, I p.dirs.lo, I p.dirs.hi]] (KLane l ha hc pa pc) (fun g : Nat => .tuple #[.agg #[I l.boards, I l.rows, .slice ha l.hooks.length hc, .slice pa l.patches.length pc, .slice (some ⟨g, 0, none⟩) l.rows.toNat l.rows.toNat], I 0]) (fun g => KBall l ha hc pa pc g) := by
  have h0 : startErr l s = 0 := by
    unfold aimErr at he; split at he
    · contradiction
    · simp_all
  have hp : isPocket p = true := by
    cases h : isPocket p
    · simp [aimErr, h0, h] at he
    · rfl
  refine Cx_of Try.func83 rfl Try.ntmps83 rfl fun w0 M0 => ?_
  refine JC_seq ?_
  refine JC_region ?_
  refine JL_step rfl rfl rfl (jo_box rfl rfl) fun b3 => ?_
  refine JL_step rfl rfl rfl (jo_box rfl rfl) fun b4 => ?_
  refine JL_step rfl rfl rfl (jo_box rfl rfl) fun b5 => ?_
  refine JL_step rfl rfl rfl (jo_alloc0 Try.zeroValue107 rfl) fun b6 => ?_
  refine JL_pd rfl (det_assign rfl) ?_
  refine JL_nil ?_
  refine JE_seq ?_
  refine JC_seq ?_
  refine JC_region ?_
  refine JL_dt rfl (det_loadKA rfl Try.isAgg37 Try.sizeOf37 rfl rfl) ?_
  refine JL_dt rfl (det_loadKA rfl Try.isAgg39 Try.sizeOf39 rfl rfl) ?_
  -- stop: op  2 t13 := (call (Call (value f56) (t11 t12) (37 39)))   <0 1>   65
  refine JL_step rfl rfl rfl (jo_call rfl rfl Try.call56 rfl (started_jo l s ha pa hc pc h0)) fun g => ?_
  refine JL_pd rfl (det_move rfl) ?_
  refine JL_pd rfl (det_extract rfl rfl) ?_
  refine JL_pd rfl (det_extract rfl rfl) ?_
  refine JL_step rfl rfl rfl (jo_alloc0 Try.zeroValue107 rfl) fun b8 => ?_
  refine JL_step0 rfl rfl (jo_store rfl rfl rfl (by first | (simp only [splice_norm]; done) | (simp only [splice_norm]; rfl) | rfl) Try.sizeOf107 rfl rfl) fun _ => ?_
  refine JL_pd rfl (det_assign rfl) ?_
  refine JL_nil ?_
  refine JE_seq ?_
  refine JC_seq ?_
  refine JC_block ?_
  refine JC_seq ?_
  refine JC_region ?_
  refine JL_pd rfl (det_move rfl) ?_
  refine JL_pd rfl (det_neq rfl rfl) ?_
  refine JL_pd rfl (det_assign rfl) ?_
  refine JL_nil ?_
  refine JE_seq ?_
  -- stop: cond
  refine JC_ifn rfl (fun h1 => ?_) (fun h1 => ?_)
  · refine JC_seq ?_
    refine JC_region ?_
    refine JL_pd rfl (det_build rfl (bld_107)) ?_
    refine JL_pd rfl (det_move rfl) ?_
    refine JL_step0 rfl rfl (jo_store rfl rfl rfl (by first | (simp only [splice_norm]; done) | (simp only [splice_norm]; rfl) | rfl) Try.sizeOf107 rfl rfl) fun _ => ?_
    refine JL_pd rfl (det_assign rfl) ?_
    refine JL_nil ?_
    refine JE_seq ?_
    refine JC_ret ?_
    refine JE_block_ret ?_
    refine JE_seq_ret ?_
    -- stop: out
    exact absurd rfl h1
  · refine JC_seq ?_
    refine JC_region ?_
    refine JL_dt rfl (det_loadKA rfl Try.isAgg62 Try.sizeOf62 rfl rfl) ?_
    -- stop: op  1 t23 := (call (Call (value f71) (t22) (62)))   <0>   69
    refine JL_step rfl rfl rfl (jo_callv rfl rfl Try.call71 rfl (valid_j p)) fun _ => ?_
    refine JL_pd rfl (det_not rfl) ?_
    refine JL_pd rfl (det_assign rfl) ?_
    refine JL_nil ?_
    refine JE_seq ?_
    -- stop: cond
    refine JC_cond rfl (fun h2 => ?_) (fun h2 => ?_)
    · refine JC_seq ?_
      refine JC_region ?_
      refine JL_pd rfl (det_build rfl (bld_107)) ?_
      refine JL_step0 rfl rfl (jo_store rfl rfl rfl (by first | (simp only [splice_norm]; done) | (simp only [splice_norm]; rfl) | rfl) Try.sizeOf107 rfl rfl) fun _ => ?_
      refine JL_pd rfl (det_assign rfl) ?_
      refine JL_nil ?_
      refine JE_seq ?_
      refine JC_ret ?_
      refine JE_block_ret ?_
      refine JE_seq_ret ?_
      -- stop: out
      simp [hp] at h2
    · refine JC_skip ?_
      refine JE_block ?_
      refine JE_seq ?_
      refine JC_seq ?_
      refine JC_region ?_
      refine JL_dt rfl (det_loadKA rfl Try.isAgg107 Try.sizeOf107 rfl rfl) ?_
      refine JL_step0 rfl rfl (jo_store rfl rfl rfl (by first | (simp only [splice_norm]; done) | (simp only [splice_norm]; rfl) | rfl) Try.sizeOf107 rfl rfl) fun _ => ?_
      refine JL_pd rfl (det_assign rfl) ?_
      refine JL_nil ?_
      refine JE_seq ?_
      refine JC_ret ?_
      -- stop: out
      refine JE_out (.inl rfl) g (results2 Try.results83 (res_box rfl Try.isAgg107 Try.sizeOf107 rfl) (res_tmp rfl)) rfl (List.Perm.refl _) (fun w h => h.1)
end Go.Proofs.Ytcfhbnfincpehaa

/- Walks of package path: Hits, Aims. -/
namespace Go.Proofs.Ytcfhbnfincpehaa
open Go.RowKit Go.Shelf

def enM (p : Pk) (b : Bool) (s : St) : Bool := !hitsP p b s
def nR (l : La) : Nat := (l.rows - 1).toNat
/-- Whether a ball hits a pocket: never, in some truth, in all. -/
def hitsV (l : La) (s : St) (p : Pk) : Int := if canN l (enM p) (nR l) 0 s then (if canN l (hitsP p) (nR l) 0 s then 1 else 0) else 2
def noMemo (l : La) (en : Bool → St → Bool) : Memo l en := ⟨fun _ => none, fun _ _ h => by cases h⟩
theorem canH_j (l : La) (p : Pk) (ha pa : Option Addr) (hc pc g A mb : Nat) (V : Valid l) (s : St) (m : Memo l (hitsP p)) (d1 : -5 ≤ s.d) (d2 : s.d ≤ 5) :
    Cx Try.prog 74 [pt A, I 0, .agg #[I s.b, I s.d]] [mp mb ekSp vB m.1] (KAnd (KBox A (aimCs l p ha hc pa pc g 91 mb)) (KBall l ha hc pa pc g))
        (fun _ : Memo l (hitsP p) => .bool (canN l (hitsP p) (nR l) 0 s)) (fun m' => [mp mb ekSp vB m'.1]) (fun _ => KTrue) :=
  can_j l p ha pa hc pc g A 91 mb (hitsP p) V Try.call91 (fun b s => hit_j p b s) (nR l) 0 s m (by have := V.r1; unfold nR; omega) (by omega) d1 d2
theorem canM_j (l : La) (p : Pk) (ha pa : Option Addr) (hc pc g A mb : Nat) (V : Valid l) (s : St) (m : Memo l (enM p)) (d1 : -5 ≤ s.d) (d2 : s.d ≤ 5) :
    Cx Try.prog 74 [pt A, I 0, .agg #[I s.b, I s.d]] [mp mb ekSp vB m.1] (KAnd (KBox A (aimCs l p ha hc pa pc g 92 mb)) (KBall l ha hc pa pc g))
        (fun _ : Memo l (enM p) => .bool (canN l (enM p) (nR l) 0 s)) (fun m' => [mp mb ekSp vB m'.1]) (fun _ => KTrue) :=
  can_j l p ha pa hc pc g A 92 mb (enM p) V Try.call92 (fun b s => miss_j p b s) (nR l) 0 s m (by have := V.r1; unfold nR; omega) (by omega) d1 d2

theorem aim_ok {l : La} {s : St} {p : Pk} (h : aimErr l s p = 0) : startErr l s = 0 ∧ isPocket p = true := by
  unfold aimErr at h
  split at h
  · contradiction
  · refine ⟨by simp_all, ?_⟩
    cases hp : isPocket p
    · simp [hp] at h
    · rfl
theorem Hits_je (l : La) (s : St) (p : Pk) (ha pa : Option Addr) (hc pc : Nat) (he : aimErr l s p ≠ 0) : Cv Try.prog 45 [.agg #[I l.boards, I l.rows, .slice ha l.hooks.length hc, .slice pa l.patches.length pc], .agg #[I s.b, I s.d], .agg #[I p.boards.lo, I p.boards.hi, I p.dirs.lo, I p.dirs.hi]] (KLane l ha hc pa pc) (.tuple #[.int .u8 0, I (aimErr l s p)]) := by
  refine Cx_of Try.func45 rfl Try.ntmps45 rfl fun w0 M0 => ?_
  refine JC_seq ?_
  refine JC_region ?_
  refine JL_step rfl rfl rfl (jo_box rfl rfl) fun b3 => ?_
  refine JL_step rfl rfl rfl (jo_box rfl rfl) fun b4 => ?_
  refine JL_step rfl rfl rfl (jo_box rfl rfl) fun b5 => ?_
  refine JL_pd rfl (det_assign rfl) ?_
  refine JL_pd rfl (det_assign rfl) ?_
  refine JL_nil ?_
  refine JE_seq ?_
  refine JC_seq ?_
  refine JC_region ?_
  refine JL_dt rfl (det_loadKA rfl Try.isAgg37 Try.sizeOf37 rfl rfl) ?_
  refine JL_dt rfl (det_loadKA rfl Try.isAgg39 Try.sizeOf39 rfl rfl) ?_
  refine JL_dt rfl (det_loadKA rfl Try.isAgg62 Try.sizeOf62 rfl rfl) ?_
  -- stop: op  3 t16 := (call (Call (value f83) (t13 t14 t15) (37 39 62)))   <0 1 2>   77
  refine JL_step rfl rfl rfl (jo_callv rfl rfl Try.call83 rfl (aimed_je l s p ha pa hc pc he)) fun _ => ?_
  refine JL_pd rfl (det_move rfl) ?_
  refine JL_pd rfl (det_extract rfl rfl) ?_
  refine JL_pd rfl (det_extract rfl rfl) ?_
  refine JL_step rfl rfl rfl (jo_alloc0 Try.zeroValue107 rfl) fun b8 => ?_
  refine JL_step0 rfl rfl (jo_store rfl rfl rfl (by first | (simp only [splice_norm]; done) | (simp only [splice_norm]; rfl) | rfl) Try.sizeOf107 rfl rfl) fun _ => ?_
  refine JL_pd rfl (det_assign rfl) ?_
  refine JL_nil ?_
  refine JE_seq ?_
  refine JC_seq ?_
  refine JC_seq ?_
  refine JC_region ?_
  refine JL_pd rfl (det_move rfl) ?_
  refine JL_pd rfl (det_neq rfl rfl) ?_
  refine JL_nil ?_
  refine JE_seq ?_
  -- stop: cond
  refine JC_ifn rfl (fun h1 => ?_) (fun h1 => ?_)
  · refine JC_seq ?_
    refine JC_region ?_
    refine JL_pd rfl (det_move rfl) ?_
    refine JL_pd rfl (det_assign rfl) ?_
    refine JL_pd rfl (det_assign rfl) ?_
    refine JL_nil ?_
    refine JE_seq ?_
    refine JC_ret ?_
    refine JE_seq_ret ?_
    -- stop: out
    refine JE_out (.inl rfl) () (results2 Try.results45 (res_tmp rfl) (res_tmp rfl)) rfl (List.Perm.refl _) (fun _ _ => trivial)
  · refine JC_skip ?_
    refine JE_seq ?_
    refine JC_seq ?_
    refine JC_region ?_
    refine JL_dt rfl (det_loadKA rfl Try.isAgg107 Try.sizeOf107 rfl rfl) ?_
    refine JL_dt rfl (det_loadKA rfl Try.isAgg62 Try.sizeOf62 rfl rfl) ?_
    -- stop: op  2 t25 := (call (Call (value f73) (t23 t24) (107 62)))   <0 1>   81
    exact absurd h1 he
theorem Hits_jo (l : La) (s : St) (p : Pk) (ha pa : Option Addr) (hc pc : Nat) (he : aimErr l s p = 0) : Cv Try.prog 45 [.agg #[I l.boards, I l.rows, .slice ha l.hooks.length hc, .slice pa l.patches.length pc], .agg #[I s.b, I s.d], .agg #[I p.boards.lo, I p.boards.hi, I p.dirs.lo, I p.dirs.hi]] (KLane l ha hc pa pc) (.tuple #[.int .u8 (hitsV l s p), I 0]) := by
  obtain ⟨V, h0⟩ := valid_start (aim_ok he).1
  obtain ⟨d1, d2⟩ := start_d h0
  refine Cx_of Try.func45 rfl Try.ntmps45 rfl fun w0 M0 => ?_
  refine JC_seq ?_
  refine JC_region ?_
  refine JL_step rfl rfl rfl (jo_box rfl rfl) fun b3 => ?_
  refine JL_step rfl rfl rfl (jo_box rfl rfl) fun b4 => ?_
  refine JL_step rfl rfl rfl (jo_box rfl rfl) fun b5 => ?_
  refine JL_pd rfl (det_assign rfl) ?_
  refine JL_pd rfl (det_assign rfl) ?_
  refine JL_nil ?_
  refine JE_seq ?_
  refine JC_seq ?_
  refine JC_region ?_
  refine JL_dt rfl (det_loadKA rfl Try.isAgg37 Try.sizeOf37 rfl rfl) ?_
  refine JL_dt rfl (det_loadKA rfl Try.isAgg39 Try.sizeOf39 rfl rfl) ?_
  refine JL_dt rfl (det_loadKA rfl Try.isAgg62 Try.sizeOf62 rfl rfl) ?_
  -- stop: op  3 t16 := (call (Call (value f83) (t13 t14 t15) (37 39 62)))   <0 1 2>   77
  refine JL_step rfl rfl rfl (jo_call rfl rfl Try.call83 rfl (aimed_jo l s p ha pa hc pc he)) fun g => ?_
  refine JL_pd rfl (det_move rfl) ?_
  refine JL_pd rfl (det_extract rfl rfl) ?_
  refine JL_pd rfl (det_extract rfl rfl) ?_
  refine JL_step rfl rfl rfl (jo_alloc0 Try.zeroValue107 rfl) fun b8 => ?_
  refine JL_step0 rfl rfl (jo_store rfl rfl rfl (by first | (simp only [splice_norm]; done) | (simp only [splice_norm]; rfl) | rfl) Try.sizeOf107 rfl rfl) fun _ => ?_
  refine JL_pd rfl (det_assign rfl) ?_
  refine JL_nil ?_
  refine JE_seq ?_
  refine JC_seq ?_
  refine JC_seq ?_
  refine JC_region ?_
  refine JL_pd rfl (det_move rfl) ?_
  refine JL_pd rfl (det_neq rfl rfl) ?_
  refine JL_nil ?_
  refine JE_seq ?_
  -- stop: cond
  refine JC_ifn rfl (fun h1 => ?_) (fun h1 => ?_)
  · refine JC_seq ?_
    refine JC_region ?_
    refine JL_pd rfl (det_move rfl) ?_
    refine JL_pd rfl (det_assign rfl) ?_
    refine JL_pd rfl (det_assign rfl) ?_
    refine JL_nil ?_
    refine JE_seq ?_
    refine JC_ret ?_
    refine JE_seq_ret ?_
    -- stop: out
    exact absurd rfl h1
  · refine JC_skip ?_
    refine JE_seq ?_
    refine JC_seq ?_
    refine JC_region ?_
    refine JL_dt rfl (det_loadKA rfl Try.isAgg107 Try.sizeOf107 rfl rfl) ?_
    refine JL_dt rfl (det_loadKA rfl Try.isAgg62 Try.sizeOf62 rfl rfl) ?_
    -- stop: op  2 t25 := (call (Call (value f73) (t23 t24) (107 62)))   <0 1>   81
    refine JL_step rfl rfl rfl (jo_callx rfl rfl Try.call73 rfl (aimers_j l p ha pa hc pc g) ((List.Perm.refl _))) fun ⟨⟨A1, A2⟩, m1, m2⟩ => ?_
    refine JL_pd rfl (det_move rfl) ?_
    refine JL_pd rfl (det_extract rfl rfl) ?_
    refine JL_pd rfl (det_extract rfl rfl) ?_
    refine JL_pd rfl (det_assign rfl) ?_
    refine JL_pd rfl (det_assign rfl) ?_
    refine JL_nil ?_
    refine JE_seq ?_
    refine JC_seq ?_
    refine JC_block ?_
    refine JC_seq ?_
    refine JC_region ?_
    refine JL_pd rfl (det_move rfl) ?_
    refine JL_dt rfl (det_loadKA rfl Try.isAgg39 Try.sizeOf39 rfl rfl) ?_
    -- stop: op  2 t31 := (call (Call (value f74) (t29 0 t30) (133 3 39)))   <0 1>   83
    refine JL_step rfl rfl rfl (jo_callx rfl rfl Try.call74 rfl (canM_j l p ha pa hc pc g A2 m2 V s (noMemo l (enM p)) d1 d2) ((perm1 (mp m2 ekSp vB (fun _ => none))))) fun n2 => ?_
    refine JL_pd rfl (det_not rfl) ?_
    refine JL_pd rfl (det_assign rfl) ?_
    refine JL_nil ?_
    refine JE_seq ?_
    -- stop: cond
    refine JC_cond rfl (fun h2 => ?_) (fun h2 => ?_)
    · refine JC_seq ?_
      refine JC_region ?_
      refine JL_pd rfl (det_assign rfl) ?_
      refine JL_pd rfl (det_assign rfl) ?_
      refine JL_nil ?_
      refine JE_seq ?_
      refine JC_ret ?_
      refine JE_block_ret ?_
      refine JE_seq_ret ?_
      -- stop: out
      refine JE_out (.inl rfl) () (results2 Try.results45 (res_tmp rfl) (res_tmp rfl)) (by simp at h2; simp [hitsV, h2]) (List.Perm.refl _) (fun _ _ => trivial)
    · refine JC_seq ?_
      refine JC_region ?_
      refine JL_pd rfl (det_move rfl) ?_
      refine JL_dt rfl (det_loadKA rfl Try.isAgg39 Try.sizeOf39 rfl rfl) ?_
      -- stop: op  2 t36 := (call (Call (value f74) (t34 0 t35) (133 3 39)))   <0 1>   85
      refine JL_step rfl rfl rfl (jo_callx rfl rfl Try.call74 rfl (canH_j l p ha pa hc pc g A1 m1 V s (noMemo l (hitsP p)) d1 d2) ((perm1 (mp m1 ekSp vB (fun _ => none))))) fun n1 => ?_
      refine JL_pd rfl (det_assign rfl) ?_
      refine JL_nil ?_
      refine JE_seq ?_
      -- stop: cond
      refine JC_cond rfl (fun h3 => ?_) (fun h3 => ?_)
      · refine JC_seq ?_
        refine JC_region ?_
        refine JL_pd rfl (det_assign rfl) ?_
        refine JL_pd rfl (det_assign rfl) ?_
        refine JL_nil ?_
        refine JE_seq ?_
        refine JC_ret ?_
        refine JE_block_ret ?_
        refine JE_seq_ret ?_
        -- stop: out
        refine JE_out (.inl rfl) () (results2 Try.results45 (res_tmp rfl) (res_tmp rfl)) (by simp at h2; simp [hitsV, h2, h3]) (List.Perm.refl _) (fun _ _ => trivial)
      · refine JC_skip ?_
        refine JE_block ?_
        refine JE_seq ?_
        refine JC_seq ?_
        refine JC_region ?_
        refine JL_pd rfl (det_assign rfl) ?_
        refine JL_pd rfl (det_assign rfl) ?_
        refine JL_nil ?_
        refine JE_seq ?_
        refine JC_ret ?_
        -- stop: out
        refine JE_out (.inl rfl) () (results2 Try.results45 (res_tmp rfl) (res_tmp rfl)) (by simp at h2; simp [hitsV, h2, h3]) (List.Perm.refl _) (fun _ _ => trivial)
end Go.Proofs.Ytcfhbnfincpehaa

/- Walks of package path: Aims. -/
namespace Go.Proofs.Ytcfhbnfincpehaa
open Go.RowKit Go.Shelf

/-- All starts of the first boards, so many, and of the next board, up to a direction. -/
def doneS (i j : Nat) : List St := (List.range i).flatMap (fun a : Nat => (List.range 11).map fun b : Nat => (⟨1 + a, -5 + b⟩ : St)) ++ (List.range j).map fun b : Nat => (⟨1 + i, -5 + b⟩ : St)
theorem doneS_dir (i j : Nat) : doneS i (j + 1) = doneS i j ++ [⟨1 + i, -5 + j⟩] := by
  simp [doneS, List.range_succ]
theorem doneS_row (i : Nat) : doneS i 11 = doneS (i + 1) 0 := by
  simp [doneS, List.range_succ (n := i), List.flatMap_append]
theorem doneS_len (i j : Nat) : (doneS i j).length = i * 11 + j := by
  have : ∀ i : Nat, ((List.range i).flatMap (fun a : Nat => (List.range 11).map fun b : Nat => (⟨1 + a, -5 + b⟩ : St))).length = i * 11 := by
    intro i
    induction i with
    | zero => rfl
    | succ i ih => rw [List.range_succ (n := i), List.flatMap_append, List.length_append, ih]; simp; omega
  simp [doneS, this]
/-- It surely hits. -/
def sureS (l : La) (p : Pk) (s : St) : Bool := !canN l (enM p) (nR l) 0 s
def aimsL (l : La) (p : Pk) : List St := (doneS l.boards.toNat 0).filter (sureS l p)
/-- The error of a lane with a pocket. -/
def aimsErr (l : La) (p : Pk) : Int := if fault l ≠ 0 then fault l else if isPocket p then 0 else 2

theorem Aims_je (l : La) (p : Pk) (ha pa : Option Addr) (hc pc : Nat) (he : aimsErr l p ≠ 0) : Cv Try.prog 29 [.agg #[I l.boards, I l.rows, .slice ha l.hooks.length hc, .slice pa l.patches.length pc], .agg #[I p.boards.lo, I p.boards.hi, I p.dirs.lo, I p.dirs.hi]] (KLane l ha hc pa pc) (.tuple #[.slice none 0 0, I (aimsErr l p)]) := by
  refine Cx_of Try.func29 rfl Try.ntmps29 rfl fun w0 M0 => ?_
  refine JC_seq ?_
  refine JC_region ?_
  refine JL_step rfl rfl rfl (jo_box rfl rfl) fun b2 => ?_
  refine JL_step rfl rfl rfl (jo_box rfl rfl) fun b3 => ?_
  refine JL_pd rfl (det_assign rfl) ?_
  refine JL_pd rfl (det_assign rfl) ?_
  refine JL_nil ?_
  refine JE_seq ?_
  refine JC_seq ?_
  refine JC_seq ?_
  refine JC_region ?_
  refine JL_dt rfl (det_loadKA rfl Try.isAgg37 Try.sizeOf37 rfl rfl) ?_
  -- stop: op  1 t14 := (call (Call (value f41) (t13) (37)))   <0>   126
  refine JL_step rfl rfl rfl (jo_callv rfl rfl Try.call41 rfl (CheckLane_j l ha pa hc pc)) fun _ => ?_
  refine JL_pd rfl (det_assign rfl) ?_
  refine JL_nil ?_
  refine JE_seq ?_
  refine JC_seq ?_
  refine JC_region ?_
  refine JL_pd rfl (det_move rfl) ?_
  refine JL_pd rfl (det_neq rfl rfl) ?_
  refine JL_nil ?_
  refine JE_seq ?_
  -- stop: cond
  refine JC_ifn rfl (fun h1 => ?_) (fun h1 => ?_)
  · refine JC_seq ?_
    refine JC_region ?_
    refine JL_pd rfl (det_move rfl) ?_
    refine JL_pd rfl (det_assign rfl) ?_
    refine JL_pd rfl (det_assign rfl) ?_
    refine JL_nil ?_
    refine JE_seq ?_
    refine JC_ret ?_
    refine JE_seq_ret ?_
    -- stop: out
    refine JE_out (.inl rfl) () (results2 Try.results29 (res_tmp rfl) (res_tmp rfl)) (by simp [aimsErr, h1]) (List.Perm.refl _) (fun _ _ => trivial)
  · refine JC_skip ?_
    refine JE_seq ?_
    refine JC_seq ?_
    refine JC_seq ?_
    refine JC_region ?_
    refine JL_dt rfl (det_loadKA rfl Try.isAgg62 Try.sizeOf62 rfl rfl) ?_
    -- stop: op  1 t19 := (call (Call (value f71) (t18) (62)))   <0>   129
    refine JL_step rfl rfl rfl (jo_callv rfl rfl Try.call71 rfl (valid_j p)) fun _ => ?_
    refine JL_pd rfl (det_not rfl) ?_
    refine JL_nil ?_
    refine JE_seq ?_
    -- stop: cond
    refine JC_cond rfl (fun h2 => ?_) (fun h2 => ?_)
    · refine JC_seq ?_
      refine JC_region ?_
      refine JL_pd rfl (det_assign rfl) ?_
      refine JL_pd rfl (det_assign rfl) ?_
      refine JL_nil ?_
      refine JE_seq ?_
      refine JC_ret ?_
      refine JE_seq_ret ?_
      -- stop: out
      refine JE_out (.inl rfl) () (results2 Try.results29 (res_tmp rfl) (res_tmp rfl)) (by simp at h2; simp [aimsErr, h1, h2]) (List.Perm.refl _) (fun _ _ => trivial)
    · refine JC_skip ?_
      refine JE_seq ?_
      refine JC_seq ?_
      refine JC_draw [] (by kernel_rfl) ?_
      refine JA_dt (i := 0) rfl (by kernel_rfl) (by kernel_rfl) rfl rfl (det_loadKA rfl Try.isAgg37 Try.sizeOf37 rfl rfl) ?_
      refine JA_dt (i := 2) rfl (by kernel_rfl) (by kernel_rfl) rfl rfl (det_loadKA rfl Try.isAgg62 Try.sizeOf62 rfl rfl) ?_
      -- stop: op  1 t23 := (call (Call (value f72) (t22) (37)))   <0>   132
      simp at h2
      simp [aimsErr, h1, h2] at he
set_option maxRecDepth 100000 in
theorem Aims_jo (l : La) (p : Pk) (ha pa : Option Addr) (hc pc : Nat) (he : aimsErr l p = 0) : Cr Try.prog 29 [.agg #[I l.boards, I l.rows, .slice ha l.hooks.length hc, .slice pa l.patches.length pc], .agg #[I p.boards.lo, I p.boards.hi, I p.dirs.lo, I p.dirs.hi]] (KLane l ha hc pa pc) (fun q : Option Addr × Nat => .tuple #[.slice q.1 (aimsL l p).length q.2, I 0]) (fun q => KSl q.1 (aimsL l p).length q.2 encSt (aimsL l p)) := by
  have hf : fault l = 0 := by
    unfold aimsErr at he; split at he
    · contradiction
    · simp_all
  have hp : isPocket p = true := by
    cases h : isPocket p
    · simp [aimsErr, hf, h] at he
    · rfl
  have V := fault_valid hf
  have v1 := V.b1
  have v2 := V.b2
  refine Cx_of Try.func29 rfl Try.ntmps29 rfl fun w0 M0 => ?_
  refine JC_seq ?_
  refine JC_region ?_
  refine JL_step rfl rfl rfl (jo_box rfl rfl) fun b2 => ?_
  refine JL_step rfl rfl rfl (jo_box rfl rfl) fun b3 => ?_
  refine JL_pd rfl (det_assign rfl) ?_
  refine JL_pd rfl (det_assign rfl) ?_
  refine JL_nil ?_
  refine JE_seq ?_
  refine JC_seq ?_
  refine JC_seq ?_
  refine JC_region ?_
  refine JL_dt rfl (det_loadKA rfl Try.isAgg37 Try.sizeOf37 rfl rfl) ?_
  -- stop: op  1 t14 := (call (Call (value f41) (t13) (37)))   <0>   126
  refine JL_step rfl rfl rfl (jo_callv rfl rfl Try.call41 rfl (CheckLane_j l ha pa hc pc)) fun _ => ?_
  refine JL_pd rfl (det_assign rfl) ?_
  refine JL_nil ?_
  refine JE_seq ?_
  refine JC_seq ?_
  refine JC_region ?_
  refine JL_pd rfl (det_move rfl) ?_
  refine JL_pd rfl (det_neq rfl rfl) ?_
  refine JL_nil ?_
  refine JE_seq ?_
  -- stop: cond
  refine JC_ifn rfl (fun h1 => ?_) (fun h1 => ?_)
  · refine JC_seq ?_
    refine JC_region ?_
    refine JL_pd rfl (det_move rfl) ?_
    refine JL_pd rfl (det_assign rfl) ?_
    refine JL_pd rfl (det_assign rfl) ?_
    refine JL_nil ?_
    refine JE_seq ?_
    refine JC_ret ?_
    refine JE_seq_ret ?_
    -- stop: out
    exact absurd hf h1
  · refine JC_skip ?_
    refine JE_seq ?_
    refine JC_seq ?_
    refine JC_seq ?_
    refine JC_region ?_
    refine JL_dt rfl (det_loadKA rfl Try.isAgg62 Try.sizeOf62 rfl rfl) ?_
    -- stop: op  1 t19 := (call (Call (value f71) (t18) (62)))   <0>   129
    refine JL_step rfl rfl rfl (jo_callv rfl rfl Try.call71 rfl (valid_j p)) fun _ => ?_
    refine JL_pd rfl (det_not rfl) ?_
    refine JL_nil ?_
    refine JE_seq ?_
    -- stop: cond
    refine JC_cond rfl (fun h2 => ?_) (fun h2 => ?_)
    · refine JC_seq ?_
      refine JC_region ?_
      refine JL_pd rfl (det_assign rfl) ?_
      refine JL_pd rfl (det_assign rfl) ?_
      refine JL_nil ?_
      refine JE_seq ?_
      refine JC_ret ?_
      refine JE_seq_ret ?_
      -- stop: out
      simp [hp] at h2
    · refine JC_skip ?_
      refine JE_seq ?_
      refine JC_seq ?_
      refine JC_draw [] (by kernel_rfl) ?_
      refine JA_dt (i := 0) rfl (by kernel_rfl) (by kernel_rfl) rfl rfl (det_loadKA rfl Try.isAgg37 Try.sizeOf37 rfl rfl) ?_
      refine JA_dt (i := 2) rfl (by kernel_rfl) (by kernel_rfl) rfl rfl (det_loadKA rfl Try.isAgg62 Try.sizeOf62 rfl rfl) ?_
      -- stop: op  1 t23 := (call (Call (value f72) (t22) (37)))   <0>   132
      refine JA_one (i := 1) (by kernel_rfl) rfl rfl (jo_call rfl rfl Try.call72 rfl (ball_j l ha pa hc pc V)) (fun _ => ⟨hsub_drop 0 rfl, fun _ h => h.2⟩) fun g => ?_
      -- stop: op  3 t25 := (call (Call (value f73) (t23 t24) (107 62)))   <1 2 1>   132
      refine JA_one (i := 3) (by kernel_rfl) rfl rfl (jo_callx rfl rfl Try.call73 rfl (aimers_j l p ha pa hc pc g) ((List.Perm.refl _))) (fun _ => ⟨hsub_drop 2 rfl, fun _ h => h.2⟩) fun ⟨⟨A1, A2⟩, m1, m2⟩ => ?_
      refine JA_pd (i := 4) rfl (by kernel_rfl) rfl rfl (det_move rfl) ?_
      refine JA_pd (i := 5) rfl (by kernel_rfl) rfl rfl (det_extract rfl rfl) ?_
      refine JA_pd (i := 6) rfl (by kernel_rfl) rfl rfl (det_extract rfl rfl) ?_
      refine JA_pd (i := 7) rfl (by kernel_rfl) rfl rfl (det_assign rfl) ?_
      refine JA_pd (i := 8) rfl (by kernel_rfl) rfl rfl (det_assign rfl) ?_
      refine JA_done (by kernel_rfl) ?_
      refine JE_seq ?_
      refine JC_seq ?_
      refine JC_region ?_
      refine JL_pd rfl (det_assign rfl) ?_
      refine JL_nil ?_
      refine JE_seq ?_
      refine JC_seq ?_
      refine JC_seq ?_
      refine JC_region ?_
      refine JL_pd rfl (det_assign rfl) ?_
      refine JL_nil ?_
      refine JE_seq ?_
      refine JC_block ?_
      -- stop: loop
      refine JC_nil 39 2 ?_
      refine JC_loop (γ := Nat × Value × List St × Memo l (enM p)) (I := fun q => q.1 ≤ l.boards.toNat ∧ q.2.2.1 = (doneS q.1 0).filter (sureS l p))
        (st' := fun q => [(10, I (1 + q.1)), (9, q.2.1), (8, pt A2), (2, pt b2)]) (H' := fun q => [ow q.2.1 39 2 q.2.2.1.length (q.2.2.1.flatMap encSt), mp m2 ekSp vB q.2.2.2.1, bx b2 [I l.boards, I l.rows, .slice ha l.hooks.length hc, .slice pa l.patches.length pc]])
        (R' := fun _ => KAnd (KBox A2 (aimCs l p ha hc pa pc g 92 m2)) (KBall l ha hc pa pc g)) (μ := fun q => l.boards.toNat - q.1) (0, .slice none 0 0, [], noMemo l (enM p)) ⟨by omega, rfl⟩ (stsub_cons rfl (stsub_cons rfl (stsub_cons rfl (stsub_cons rfl stsub_nil)))) (show HSub _ [ow (.slice none 0 0) 39 2 0 [], mp m2 ekSp vB (fun _ => none), bx b2 _] from hsub_cons (hsub_cons (hsub_cons hsub_nil))) (Knows.know) ?_
      rintro ⟨i, v, L, m⟩ ⟨hi, hL⟩ K hK
      dsimp only at hi hL ⊢
      refine JC_seq ?_
      refine JC_seq ?_
      refine JC_region ?_
      refine JL_pd rfl (det_move rfl) ?_
      refine JL_pd rfl (det_fieldAddr rfl fo_37_0) ?_
      refine JL_dt rfl (det_loadK rfl Try.isAgg3 rfl) ?_
      refine JL_pd rfl (det_leq rfl rfl) ?_
      refine JL_nil ?_
      refine JE_seq ?_
      -- stop: cond
      refine JC_if rfl (fun h3 => ?_) (fun h3 => ?_)
      · refine JC_skip ?_
        refine JE_seq ?_
        refine JC_seq ?_
        refine JC_block ?_
        refine JC_seq ?_
        refine JC_region ?_
        refine JL_pd rfl (det_assign rfl) ?_
        refine JL_nil ?_
        refine JE_seq ?_
        refine JC_block ?_
        -- stop: loop
        have hi2 : i < l.boards.toNat := by omega
        refine JC_loop (γ := Nat × Value × List St × Memo l (enM p)) (I := fun q => q.1 ≤ 11 ∧ q.2.2.1 = (doneS i q.1).filter (sureS l p))
          (st' := fun q => [(11, I (-5 + q.1)), (10, I (1 + i)), (9, q.2.1), (8, pt A2), (2, pt b2)]) (H' := fun q => [ow q.2.1 39 2 q.2.2.1.length (q.2.2.1.flatMap encSt), mp m2 ekSp vB q.2.2.2.1, bx b2 [I l.boards, I l.rows, .slice ha l.hooks.length hc, .slice pa l.patches.length pc]])
          (R' := fun _ => KAnd (KBox A2 (aimCs l p ha hc pa pc g 92 m2)) (KBall l ha hc pa pc g)) (μ := fun q => 11 - q.1) (0, v, L, m) ⟨by omega, hL⟩ (stsub_cons rfl (stsub_cons rfl (stsub_cons rfl (stsub_cons rfl (stsub_cons rfl stsub_nil))))) (show HSub _ [ow v 39 2 L.length (L.flatMap encSt), mp m2 ekSp vB m.1, bx b2 _] from hsub_cons (hsub_cons (hsub_cons hsub_nil))) (Knows.know) ?_
        clear hL
        rintro ⟨j, v, L, m⟩ ⟨hj, hL⟩ K2 hK2
        dsimp only at hj hL ⊢
        have hlen : L.length ≤ 1000 := by
          rw [hL]
          have := List.length_filter_le (sureS l p) (doneS i j)
          rw [doneS_len] at this; omega
        refine JC_seq ?_
        refine JC_seq ?_
        refine JC_region ?_
        refine JL_pd rfl (det_move rfl) ?_
        refine JL_pd rfl (det_leq rfl rfl) ?_
        refine JL_nil ?_
        refine JE_seq ?_
        -- stop: cond
        refine JC_if rfl (fun h4 => ?_) (fun h4 => ?_)
        · refine JC_skip ?_
          refine JE_seq ?_
          refine JC_seq ?_
          refine JC_block ?_
          refine JC_seq ?_
          refine JC_region ?_
          refine JL_pd rfl (det_move rfl) ?_
          refine JL_pd rfl (det_move rfl) ?_
          refine JL_pd rfl (det_build rfl (bld_39_0_1 _ _)) ?_
          refine JL_step rfl rfl rfl (jo_alloc0 Try.zeroValue39 rfl) fun b12 => ?_
          refine JL_step0 rfl rfl (jo_store rfl rfl rfl (by first | (simp only [splice_norm]; done) | (simp only [splice_norm]; rfl) | rfl) Try.sizeOf39 rfl rfl) fun _ => ?_
          refine JL_nil ?_
          refine JE_seq ?_
          refine JC_seq ?_
          refine JC_region ?_
          refine JL_pd rfl (det_move rfl) ?_
          refine JL_dt rfl (det_loadKA rfl Try.isAgg39 Try.sizeOf39 rfl rfl) ?_
          -- stop: op  2 t43 := (call (Call (value f74) (t41 0 t42) (133 3 39)))   <0 1>   136
          have hj2 : j < 11 := by omega
          refine JL_step rfl rfl rfl (jo_callx rfl rfl Try.call74 rfl (canM_j l p ha pa hc pc g A2 m2 V ⟨1 + i, -5 + j⟩ m (by simp; omega) (by simp; omega)) ((perm1 (mp m2 ekSp vB m.1)))) fun m' => ?_
          refine JL_pd rfl (det_not rfl) ?_
          refine JL_nil ?_
          refine JE_seq ?_
          -- stop: cond
          refine JC_cond rfl (fun h5 => ?_) (fun h5 => ?_)
          · refine JC_region ?_
            refine JL_pd rfl (det_move rfl) ?_
            refine JL_dt rfl (det_loadKA rfl Try.isAgg39 Try.sizeOf39 rfl rfl) ?_
            refine JL_step rfl rfl rfl (jo_buildSlice rfl (bsl_30_1_0 _ _)) fun b47 => ?_
            refine JL_step rfl rfl rfl (jo_append el_30 rfl rfl rfl rfl (by omega)) fun b48 => ?_
            refine JL_pd rfl (det_assign rfl) ?_
            refine JL_nil ?_
            refine JE_block ?_
            refine JE_seq ?_
            refine JC_region ?_
            refine JL_pd rfl (det_move rfl) ?_
            refine JL_pd rfl (det_add rfl rfl ⟨by omega, by omega⟩) ?_
            refine JL_pd rfl (det_assign rfl) ?_
            refine JL_nil ?_
            -- stop: end
            refine JE_round hK2 (j + 1, .slice (some ⟨b48.1, 0, none⟩) (L.length + 1) b48.2, L ++ [⟨1 + i, -5 + j⟩], m') ⟨by omega, ?_⟩ (by simp only; omega) ?_ ?_ Knows.know
            · simp only [doneS_dir, List.filter_append, hL]
              congr 1
              simp at h5
              simp [sureS, h5]
            · exact stsub_consI rfl (by omega) (stsub_cons rfl (stsub_cons rfl (stsub_cons rfl (stsub_cons rfl stsub_nil))))
            · exact hsub_ow (by simp) (by simp [encSt]) (hsub_cons (hsub_cons hsub_nil))
          · refine JC_skip ?_
            refine JE_block ?_
            refine JE_seq ?_
            refine JC_region ?_
            refine JL_pd rfl (det_move rfl) ?_
            refine JL_pd rfl (det_add rfl rfl ⟨by omega, by omega⟩) ?_
            refine JL_pd rfl (det_assign rfl) ?_
            refine JL_nil ?_
            -- stop: end
            refine JE_round hK2 (j + 1, v, L, m') ⟨by omega, ?_⟩ (by simp only; omega) ?_ ?_ Knows.know
            · simp only [doneS_dir, List.filter_append, hL]
              simp at h5
              simp [sureS, h5]
            · exact stsub_consI rfl (by omega) (stsub_cons rfl (stsub_cons rfl (stsub_cons rfl (stsub_cons rfl stsub_nil))))
            · exact hsub_cons (hsub_cons (hsub_cons hsub_nil))
        · refine JC_exit ?_
          refine JE_seq_exit ?_
          refine JE_then_exit ?_
          refine JE_block_here ?_
          refine JE_block ?_
          refine JE_seq ?_
          refine JC_region ?_
          refine JL_pd rfl (det_move rfl) ?_
          refine JL_pd rfl (det_add rfl rfl ⟨by omega, by omega⟩) ?_
          refine JL_pd rfl (det_assign rfl) ?_
          refine JL_nil ?_
          -- stop: end
          have hj3 : j = 11 := by omega
          refine JE_round hK (i + 1, v, L, m) ⟨by omega, by simp only; rw [hL, hj3, doneS_row]⟩ (by simp only; omega) ?_ ?_ Knows.know
          · exact stsub_consI rfl (by omega) (stsub_cons rfl (stsub_cons rfl (stsub_cons rfl stsub_nil)))
          · exact hsub_cons (hsub_cons (hsub_cons hsub_nil))
      · refine JC_exit ?_
        refine JE_seq_exit ?_
        refine JE_then_exit ?_
        refine JE_block_here ?_
        refine JE_seq ?_
        refine JC_seq ?_
        refine JC_region ?_
        refine JL_pd rfl (det_move rfl) ?_
        refine JL_pd rfl (det_assign rfl) ?_
        refine JL_pd rfl (det_assign rfl) ?_
        refine JL_nil ?_
        refine JE_seq ?_
        refine JC_ret ?_
        -- stop: out
        have hi3 : i = l.boards.toNat := by omega
        refine JE_slice (enc := encSt) (v := v) L noFp rfl rfl ?_
        rintro a cap rfl
        have hLa : L = aimsL l p := by rw [hL, hi3]; rfl
        subst hLa
        refine JE_out (.inl rfl) (a, cap) (results2 Try.results29 (res_tmp rfl) (res_tmp rfl)) rfl (List.Perm.refl _) (fun w h => h.1)
end Go.Proofs.Ytcfhbnfincpehaa

/- Walks of package path: Best. -/
namespace Go.Proofs.Ytcfhbnfincpehaa
open Go.RowKit Go.Shelf

/-- Both states, so far to the sides, are in a list. -/
def pairOk (A : List St) (s : St) (n : Nat) : Bool := decide ((⟨s.b - n, s.d⟩ : St) ∈ A) && decide ((⟨s.b + n, s.d⟩ : St) ∈ A)
def runUp (p : Nat → Bool) : Nat → Nat → Nat
  | 0, m => m
  | f + 1, m => if p m = true then runUp p f (m + 1) else m
/-- How many distances, from 0 on, are so. -/
def roomN (A : List St) (s : St) : Nat := runUp (pairOk A s) 60 0
theorem runUp_spec (p : Nat → Bool) : ∀ f m, m ≤ runUp p f m ∧ (∀ j, m ≤ j → j < runUp p f m → p j = true) ∧ (runUp p f m < m + f → p (runUp p f m) = false) ∧ runUp p f m ≤ m + f
  | 0, m => ⟨by simp [runUp], by intro j h1 h2; simp [runUp] at h2; omega, by simp [runUp], by simp [runUp]⟩
  | f + 1, m => by
    unfold runUp
    by_cases h : p m = true
    · rw [if_pos h]
      obtain ⟨h1, h2, h3, h4⟩ := runUp_spec p f (m + 1)
      refine ⟨by omega, fun j hj1 hj2 => ?_, fun hlt => h3 (by omega), by omega⟩
      by_cases e : j = m
      · subst e; exact h
      · exact h2 j (by omega) hj2
    · rw [if_neg h]
      exact ⟨by omega, by intro j h1 h2; omega, fun _ => by simpa using h, by omega⟩
theorem roomN_eq {A : List St} {s : St} {k : Nat} (h1 : ∀ m, m < k → pairOk A s m = true) (h2 : pairOk A s k = false) (hk : k < 60) : roomN A s = k := by
  obtain ⟨a, b, c, d⟩ := runUp_spec (pairOk A s) 60 0
  unfold roomN
  rcases Nat.lt_trichotomy (runUp (pairOk A s) 60 0) k with h | h | h
  · have := c (by omega); rw [h1 _ h] at this; cases this
  · exact h
  · have := b k (by omega) h; rw [h2] at this; cases this
theorem roomN_ge {A : List St} {s : St} {k : Nat} (h1 : ∀ m, m < k → pairOk A s m = true) (hk : k ≤ 60) : k ≤ roomN A s := by
  obtain ⟨a, b, c, d⟩ := runUp_spec (pairOk A s) 60 0
  unfold roomN
  rcases Nat.lt_or_ge (runUp (pairOk A s) 60 0) k with h | h
  · have := c (by omega); rw [h1 _ h] at this; cases this
  · exact h
theorem roomN_lt {A : List St} {s : St} {k : Nat} (h2 : pairOk A s k = false) : roomN A s ≤ k := by
  obtain ⟨a, b, c, d⟩ := runUp_spec (pairOk A s) 60 0
  unfold roomN
  rcases Nat.lt_or_ge k (runUp (pairOk A s) 60 0) with h | h
  · have := b k (by omega) h; rw [h2] at this; cases this
  · exact h
def bestS (A : List St) (q : St × Int) (s : St) : St × Int := if q.2 < (roomN A s : Int) - 1 then (s, (roomN A s : Int) - 1) else q
/-- The first start of the greatest room, and its room; -1 where there is none. -/
def bestF (A : List St) : St × Int := A.foldl (bestS A) (⟨0, 0⟩, -1)
/-- A list as a set. -/
def setL (A : List St) : St → Option Bool := fun s => if s ∈ A then some true else none
theorem setL_get (A : List St) (s : St) : (setL A s).getD false = decide (s ∈ A) := by
  unfold setL; by_cases h : s ∈ A <;> simp [h]
theorem setL_upd (A : List St) (s : St) : upd (setL A) s true = setL (A ++ [s]) := by
  funext t; unfold upd setL; by_cases h : t = s <;> simp [h]
theorem mem_doneS {i j : Nat} {s : St} (h : s ∈ doneS i j) (hj : j = 0) : 1 ≤ s.b ∧ s.b ≤ i ∧ -5 ≤ s.d ∧ s.d ≤ 5 := by
  subst hj
  simp only [doneS, List.range_zero, List.map_nil, List.append_nil, List.mem_flatMap, List.mem_map, List.mem_range] at h
  obtain ⟨a, ha, b, hb, rfl⟩ := h
  simp only
  omega
theorem aims_bd {l : La} {p : Pk} {s : St} (h : s ∈ aimsL l p) (hb : l.boards ≤ 40) : 1 ≤ s.b ∧ s.b ≤ 40 ∧ -5 ≤ s.d ∧ s.d ≤ 5 := by
  have := mem_doneS (List.mem_filter.1 h).1 rfl
  omega
theorem pairOk_bd {l : La} {p : Pk} {s : St} {n : Nat} (hb : l.boards ≤ 40) (h : pairOk (aimsL l p) s n = true) (hs : 1 ≤ s.b) : n ≤ 40 := by
  simp only [pairOk, Bool.and_eq_true, decide_eq_true_eq] at h
  have := aims_bd h.2 hb
  simp only at this
  omega
theorem aims_len (l : La) (p : Pk) (hb : l.boards ≤ 40) : (aimsL l p).length ≤ 500 := by
  have := List.length_filter_le (sureS l p) (doneS l.boards.toNat 0)
  rw [doneS_len] at this
  unfold aimsL; omega

theorem Best_je (l : La) (p : Pk) (ha pa : Option Addr) (hc pc : Nat) (he : aimsErr l p ≠ 0) : Cv Try.prog 31 [.agg #[I l.boards, I l.rows, .slice ha l.hooks.length hc, .slice pa l.patches.length pc], .agg #[I p.boards.lo, I p.boards.hi, I p.dirs.lo, I p.dirs.hi]] (KLane l ha hc pa pc) (.tuple #[.agg #[I 0, I 0], I 0, I (aimsErr l p)]) := by
  refine Cx_of Try.func31 rfl Try.ntmps31 rfl fun w0 M0 => ?_
  refine JC_seq ?_
  refine JC_region ?_
  refine JL_step rfl rfl rfl (jo_box rfl rfl) fun b2 => ?_
  refine JL_step rfl rfl rfl (jo_box rfl rfl) fun b3 => ?_
  refine JL_step rfl rfl rfl (jo_alloc0 Try.zeroValue39 rfl) fun b4 => ?_
  refine JL_pd rfl (det_assign rfl) ?_
  refine JL_pd rfl (det_assign rfl) ?_
  refine JL_nil ?_
  refine JE_seq ?_
  refine JC_scope rfl ?_
  refine JC_seq ?_
  refine JC_region ?_
  refine JL_dt rfl (det_loadKA rfl Try.isAgg37 Try.sizeOf37 rfl rfl) ?_
  refine JL_dt rfl (det_loadKA rfl Try.isAgg62 Try.sizeOf62 rfl rfl) ?_
  -- stop: op  2 t17 := (call (Call (value f29) (t15 t16) (37 62)))   <0 1>   146
  refine JL_step rfl rfl rfl (jo_callv rfl rfl Try.call29 rfl (Aims_je l p ha pa hc pc he)) fun _ => ?_
  refine JL_pd rfl (det_move rfl) ?_
  refine JL_pd rfl (det_extract rfl rfl) ?_
  refine JL_pd rfl (det_extract rfl rfl) ?_
  refine JL_pd rfl (det_assign rfl) ?_
  refine JL_pd rfl (det_assign rfl) ?_
  refine JL_nil ?_
  refine JE_seq ?_
  refine JC_seq ?_
  refine JC_seq ?_
  refine JC_region ?_
  refine JL_pd rfl (det_move rfl) ?_
  refine JL_pd rfl (det_neq rfl rfl) ?_
  refine JL_nil ?_
  refine JE_seq ?_
  -- stop: cond
  refine JC_ifn rfl (fun h1 => ?_) (fun h1 => ?_)
  · refine JC_seq ?_
    refine JC_region ?_
    refine JL_pd rfl (det_build rfl (bld_39)) ?_
    refine JL_pd rfl (det_move rfl) ?_
    refine JL_step0 rfl rfl (jo_store rfl rfl rfl (by first | (simp only [splice_norm]; done) | (simp only [splice_norm]; rfl) | rfl) Try.sizeOf39 rfl rfl) fun _ => ?_
    refine JL_pd rfl (det_assign rfl) ?_
    refine JL_pd rfl (det_assign rfl) ?_
    refine JL_nil ?_
    refine JE_seq ?_
    refine JC_ret ?_
    refine JE_seq_ret ?_
    refine JE_scope_ret ?_
    -- stop: out
    refine JE_out (.inl rfl) () (results3 Try.results31 (res_box rfl Try.isAgg39 Try.sizeOf39 rfl) (res_tmp rfl) (res_tmp rfl)) rfl (List.Perm.refl _) (fun _ _ => trivial)
  · refine JC_skip ?_
    refine JE_seq ?_
    refine JC_seq ?_
    refine JC_region ?_
    -- stop: op  0 t24 := (makeMap 114 none)   150
    exact absurd h1 he
set_option maxRecDepth 100000 in
theorem Best_jo (l : La) (p : Pk) (ha pa : Option Addr) (hc pc : Nat) (he : aimsErr l p = 0) : Cv Try.prog 31 [.agg #[I l.boards, I l.rows, .slice ha l.hooks.length hc, .slice pa l.patches.length pc], .agg #[I p.boards.lo, I p.boards.hi, I p.dirs.lo, I p.dirs.hi]] (KLane l ha hc pa pc)
    (if (bestF (aimsL l p)).2 < 0 then .tuple #[.agg #[I 0, I 0], I 0, I 9] else .tuple #[.agg #[I (bestF (aimsL l p)).1.b, I (bestF (aimsL l p)).1.d], I (bestF (aimsL l p)).2, I 0]) := by
  have hf : fault l = 0 := by
    unfold aimsErr at he; split at he
    · contradiction
    · simp_all
  have V := fault_valid hf
  have v2 := V.b2
  have hlen := aims_len l p v2
  refine Cx_of Try.func31 rfl Try.ntmps31 rfl fun w0 M0 => ?_
  refine JC_seq ?_
  refine JC_region ?_
  refine JL_step rfl rfl rfl (jo_box rfl rfl) fun b2 => ?_
  refine JL_step rfl rfl rfl (jo_box rfl rfl) fun b3 => ?_
  refine JL_step rfl rfl rfl (jo_alloc0 Try.zeroValue39 rfl) fun b4 => ?_
  refine JL_pd rfl (det_assign rfl) ?_
  refine JL_pd rfl (det_assign rfl) ?_
  refine JL_nil ?_
  refine JE_seq ?_
  refine JC_scope rfl ?_
  refine JC_seq ?_
  refine JC_region ?_
  refine JL_dt rfl (det_loadKA rfl Try.isAgg37 Try.sizeOf37 rfl rfl) ?_
  refine JL_dt rfl (det_loadKA rfl Try.isAgg62 Try.sizeOf62 rfl rfl) ?_
  -- stop: op  2 t17 := (call (Call (value f29) (t15 t16) (37 62)))   <0 1>   146
  refine JL_step rfl rfl rfl (jo_call rfl rfl Try.call29 rfl (Aims_jo l p ha pa hc pc he)) fun ⟨a, cap⟩ => ?_
  refine JL_pd rfl (det_move rfl) ?_
  refine JL_pd rfl (det_extract rfl rfl) ?_
  refine JL_pd rfl (det_extract rfl rfl) ?_
  refine JL_pd rfl (det_assign rfl) ?_
  refine JL_pd rfl (det_assign rfl) ?_
  refine JL_nil ?_
  refine JE_seq ?_
  refine JC_seq ?_
  refine JC_seq ?_
  refine JC_region ?_
  refine JL_pd rfl (det_move rfl) ?_
  refine JL_pd rfl (det_neq rfl rfl) ?_
  refine JL_nil ?_
  refine JE_seq ?_
  -- stop: cond
  refine JC_ifn rfl (fun h1 => ?_) (fun h1 => ?_)
  · refine JC_seq ?_
    refine JC_region ?_
    refine JL_pd rfl (det_build rfl (bld_39)) ?_
    refine JL_pd rfl (det_move rfl) ?_
    refine JL_step0 rfl rfl (jo_store rfl rfl rfl (by first | (simp only [splice_norm]; done) | (simp only [splice_norm]; rfl) | rfl) Try.sizeOf39 rfl rfl) fun _ => ?_
    refine JL_pd rfl (det_assign rfl) ?_
    refine JL_pd rfl (det_assign rfl) ?_
    refine JL_nil ?_
    refine JE_seq ?_
    refine JC_ret ?_
    refine JE_seq_ret ?_
    refine JE_scope_ret ?_
    -- stop: out
    exact absurd rfl h1
  · refine JC_skip ?_
    refine JE_seq ?_
    refine JC_seq ?_
    refine JC_region ?_
    -- stop: op  0 t24 := (makeMap 114 none)   150
    refine JL_step rfl rfl rfl (jo_makeMap ekSt vB) fun b24 => ?_
    refine JL_pd rfl (det_assign rfl) ?_
    refine JL_nil ?_
    refine JE_seq ?_
    refine JC_seq ?_
    refine JC_seq ?_
    refine JC_region ?_
    refine JL_pd rfl (det_move rfl) ?_
    refine JL_pd rfl (det_len rfl Try.runUnderlying30) ?_
    refine JL_pd rfl (det_move rfl) ?_
    refine JL_nil ?_
    refine JE_seq ?_
    refine JC_block ?_
    -- stop: loop
    refine JC_loop (γ := Nat) (I := fun i => i ≤ (aimsL l p).length) (st' := fun i => [(27, I i), (26, I (aimsL l p).length), (25, .slice a (aimsL l p).length cap), (7, .slice a (aimsL l p).length cap), (8, .map (some b24)), (4, pt b4)])
      (H' := fun i => [mp b24 ekSt vB (setL ((aimsL l p).take i)), bx b4 [I 0, I 0]]) (R' := fun _ => KSl a (aimsL l p).length cap encSt (aimsL l p)) (μ := fun i => (aimsL l p).length - i) 0 (by omega)
      (stsub_cons rfl (stsub_cons rfl (stsub_cons rfl (stsub_cons rfl (stsub_cons rfl (stsub_cons rfl stsub_nil)))))) ?_ Knows.know ?_
    · show HSub _ [mp b24 ekSt vB (setL ((aimsL l p).take 0)), bx b4 [I 0, I 0]]
      have : setL ((aimsL l p).take 0) = fun _ => none := by funext s; simp [setL]
      rw [this]
      exact hsub_cons (hsub_cons hsub_nil)
    rintro i hi K hK
    (try dsimp only at hi ⊢)
    refine JC_seq ?_
    refine JC_region ?_
    refine JL_pd rfl (det_lss rfl rfl) ?_
    refine JL_nil ?_
    refine JE_seq ?_
    refine JC_seq ?_
    -- stop: cond
    refine JC_if rfl (fun h2 => ?_) (fun h2 => ?_)
    · refine JC_skip ?_
      refine JE_seq ?_
      refine JC_seq ?_
      refine JC_block ?_
      refine JC_seq ?_
      refine JC_region ?_
      refine JL_dt rfl (det_indexAddr rfl rfl (by first | rfl | omega) (by first | assumption | omega | decide) Try.runUnderlying30 Try.sizeOf39) ?_
      refine JL_dt rfl (det_loadEA rfl (by first | assumption | omega | decide) Try.isAgg39 Try.sizeOf39 rfl rfl rfl) ?_
      refine JL_step rfl rfl rfl (jo_alloc0 Try.zeroValue39 rfl) fun b10 => ?_
      refine JL_step0 rfl rfl (jo_store rfl rfl rfl (by first | (simp only [splice_norm]; done) | (simp only [splice_norm]; rfl) | rfl) Try.sizeOf39 rfl rfl) fun _ => ?_
      refine JL_nil ?_
      refine JE_seq ?_
      refine JC_region ?_
      refine JL_pd rfl (det_move rfl) ?_
      refine JL_dt rfl (det_loadKA rfl Try.isAgg39 Try.sizeOf39 rfl rfl) ?_
      -- stop: op  2 _ := (mapUpdate 114 t31 t32 (bool true))   <0 1>   152
      have hlt : i < (aimsL l p).length := by omega
      refine JL_step0 rfl rfl (jo_mapUpdate ((aimsL l p)[i]) true (.inl rfl) rfl rfl rfl goodSt Try.underlying114) fun _ => ?_
      refine JL_nil ?_
      refine JE_block ?_
      refine JE_seq ?_
      refine JC_region ?_
      refine JL_pd rfl (det_add rfl rfl ⟨by omega, by omega⟩) ?_
      refine JL_pd rfl (det_move rfl) ?_
      refine JL_nil ?_
      -- stop: end
      refine JE_round hK (i + 1) (by omega) (by omega) (stsub_cons rfl (stsub_cons rfl (stsub_cons rfl (stsub_cons rfl (stsub_cons rfl (stsub_cons rfl stsub_nil)))))) ?_ Knows.know
      rw [setL_upd, List.take_succ_eq_append_getElem hlt]
      exact hsub_cons (hsub_cons hsub_nil)
    · refine JC_exit ?_
      refine JE_seq_exit ?_
      refine JE_then_exit ?_
      refine JE_block_here ?_
      refine JE_seq ?_
      refine JC_seq ?_
      refine JC_region ?_
      refine JL_pd rfl (det_assign rfl) ?_
      refine JL_nil ?_
      refine JE_seq ?_
      refine JC_seq ?_
      refine JC_label ?_
      refine JE_seq ?_
      refine JC_seq ?_
      refine JC_seq ?_
      refine JC_region ?_
      refine JL_pd rfl (det_move rfl) ?_
      refine JL_pd rfl (det_len rfl Try.runUnderlying30) ?_
      refine JL_pd rfl (det_move rfl) ?_
      refine JL_nil ?_
      refine JE_seq ?_
      refine JC_block ?_
      -- stop: loop
      have hie : i = (aimsL l p).length := by omega
      rw [hie, List.take_length]
      refine JC_loop (γ := Nat × St × Int) (I := fun q => q.1 ≤ (aimsL l p).length ∧ q.2 = ((aimsL l p).take q.1).foldl (bestS (aimsL l p)) (⟨0, 0⟩, -1) ∧ -1 ≤ q.2.2 ∧ q.2.2 ≤ 41)
        (st' := fun q => [(36, I q.1), (35, I (aimsL l p).length), (34, .slice a (aimsL l p).length cap), (5, I q.2.2), (8, .map (some b24)), (4, pt b4)])
        (H' := fun q => [mp b24 ekSt vB (setL (aimsL l p)), bx b4 [I q.2.1.b, I q.2.1.d]]) (R' := fun _ => KSl a (aimsL l p).length cap encSt (aimsL l p)) (μ := fun q => (aimsL l p).length - q.1) (0, ⟨0, 0⟩, -1) ⟨by omega, rfl, by simp, by simp⟩
        (stsub_cons rfl (stsub_cons rfl (stsub_cons rfl (stsub_cons rfl (stsub_cons rfl (stsub_cons rfl stsub_nil)))))) (hsub_cons (hsub_cons hsub_nil)) Knows.know ?_
      clear hie hi h2 hK K i
      rintro ⟨i, st, r⟩ ⟨hi, hq, hr1, hr2⟩ K hK
      (try dsimp only at hi hq hr1 hr2 ⊢)
      refine JC_seq ?_
      refine JC_region ?_
      refine JL_pd rfl (det_lss rfl rfl) ?_
      refine JL_nil ?_
      refine JE_seq ?_
      refine JC_seq ?_
      -- stop: cond
      refine JC_if rfl (fun h2 => ?_) (fun h2 => ?_)
      · refine JC_skip ?_
        refine JE_seq ?_
        refine JC_seq ?_
        refine JC_block ?_
        refine JC_seq ?_
        refine JC_region ?_
        refine JL_dt rfl (det_indexAddr rfl rfl (by first | rfl | omega) (by first | assumption | omega | decide) Try.runUnderlying30 Try.sizeOf39) ?_
        refine JL_dt rfl (det_loadEA rfl (by first | assumption | omega | decide) Try.isAgg39 Try.sizeOf39 rfl rfl rfl) ?_
        refine JL_step rfl rfl rfl (jo_alloc0 Try.zeroValue39 rfl) fun b12 => ?_
        refine JL_step0 rfl rfl (jo_store rfl rfl rfl (by first | (simp only [splice_norm]; done) | (simp only [splice_norm]; rfl) | rfl) Try.sizeOf39 rfl rfl) fun _ => ?_
        refine JL_nil ?_
        refine JE_seq ?_
        refine JC_seq ?_
        refine JC_seq ?_
        refine JC_region ?_
        refine JL_pd rfl (det_move rfl) ?_
        refine JL_pd rfl (det_add rfl rfl ⟨by omega, by omega⟩) ?_
        refine JL_pd rfl (det_move rfl) ?_
        refine JL_nil ?_
        refine JE_seq ?_
        refine JC_block ?_
        -- stop: loop
        have hlt : i < (aimsL l p).length := by omega
        have hsb := aims_bd (List.getElem_mem hlt) v2
        refine JC_loop (γ := Nat) (I := fun n => (n : Int) ≤ r + 2 ∧ ∀ m, m < n → pairOk (aimsL l p) ((aimsL l p)[i]) m = true)
          (st' := fun n => [(42, I n), (41, I (r + 2)), (36, I i), (35, I (aimsL l p).length), (34, .slice a (aimsL l p).length cap), (5, I r), (8, .map (some b24)), (4, pt b4), (12, pt b12)])
          (H' := fun n => [mp b24 ekSt vB (setL (aimsL l p)), bx b4 [I st.b, I st.d], bx b12 [I ((aimsL l p)[i]).b, I ((aimsL l p)[i]).d]]) (R' := fun _ => KSl a (aimsL l p).length cap encSt (aimsL l p)) (μ := fun n => (r + 2 - n).toNat) 0 ⟨by omega, fun m hm => by omega⟩
          (stsub_cons rfl (stsub_cons rfl (stsub_cons rfl (stsub_cons rfl (stsub_cons rfl (stsub_cons rfl (stsub_cons rfl (stsub_cons rfl (stsub_cons rfl stsub_nil))))))))) (hsub_cons (hsub_cons (hsub_bx rfl hsub_nil))) Knows.know ?_
        have hskip : pairOk (aimsL l p) ((aimsL l p)[i]) (r + 1).toNat = false ∨ (∃ m : Nat, (m : Int) < r + 2 ∧ pairOk (aimsL l p) ((aimsL l p)[i]) m = false) → bestS (aimsL l p) (st, r) ((aimsL l p)[i]) = (st, r) := by
          intro h
          obtain ⟨m, hm, hp⟩ : ∃ m : Nat, (m : Int) < r + 2 ∧ pairOk (aimsL l p) ((aimsL l p)[i]) m = false := h.elim (fun h => ⟨(r + 1).toNat, by omega, h⟩) id
          have := roomN_lt hp
          unfold bestS
          rw [if_neg (by show ¬ r < _; omega)]
        have hfold : ((aimsL l p).take (i + 1)).foldl (bestS (aimsL l p)) (⟨0, 0⟩, -1) = bestS (aimsL l p) (st, r) ((aimsL l p)[i]) := by
          rw [List.take_succ_eq_append_getElem hlt, List.foldl_append, ← hq]; rfl
        rintro n ⟨hn, hok⟩ K3 hK3
        (try dsimp only at hn hok ⊢)
        refine JC_seq ?_
        refine JC_region ?_
        refine JL_pd rfl (det_lss rfl rfl) ?_
        refine JL_nil ?_
        refine JE_seq ?_
        refine JC_seq ?_
        -- stop: cond
        refine JC_if rfl (fun h3 => ?_) (fun h3 => ?_)
        · refine JC_skip ?_
          refine JE_seq ?_
          refine JC_seq ?_
          refine JC_block ?_
          refine JC_seq ?_
          refine JC_region ?_
          refine JL_pd rfl (det_move rfl) ?_
          refine JL_pd rfl (det_assign rfl) ?_
          refine JL_nil ?_
          refine JE_seq ?_
          refine JC_seq ?_
          refine JC_region ?_
          refine JL_pd rfl (det_move rfl) ?_
          refine JL_pd rfl (det_fieldAddr rfl fo_39_0) ?_
          refine JL_dt rfl (det_loadK rfl Try.isAgg3 rfl) ?_
          refine JL_pd rfl (det_move rfl) ?_
          refine JL_pd rfl (det_sub rfl rfl ⟨by omega, by omega⟩) ?_
          refine JL_pd rfl (det_fieldAddr rfl fo_39_1) ?_
          refine JL_dt rfl (det_loadK rfl Try.isAgg3 rfl) ?_
          refine JL_pd rfl (det_build rfl (bld_39_0_1 _ _)) ?_
          -- stop: op  8 t53 := (lookup 114 t45 t52 false)   <0 7>   158
          refine JL_dt rfl (det_lookup1B ⟨((aimsL l p)[i]).b - n, ((aimsL l p)[i]).d⟩ rfl rfl goodSt Try.underlying114 Try.zeroValue4) ?_
          refine JL_pd rfl (det_not rfl) ?_
          refine JL_pd rfl (det_move rfl) ?_
          -- stop: guard 10
          refine JL_split (d0 := 55) rfl (fun h4 => ?_) (fun h4 => ?_)
          · refine JL_skip rfl rfl h4 rfl ?_
            refine JL_skip rfl rfl h4 rfl ?_
            refine JL_skip rfl rfl h4 rfl ?_
            refine JL_skip rfl rfl h4 rfl ?_
            refine JL_skip rfl rfl h4 rfl ?_
            refine JL_skip rfl rfl h4 rfl ?_
            refine JL_skip rfl rfl h4 rfl ?_
            refine JL_skip rfl rfl h4 rfl ?_
            refine JL_skip rfl rfl h4 rfl ?_
            refine JL_skip rfl rfl h4 rfl ?_
            refine JL_pd rfl (det_pick_t rfl h4 rfl) ?_
            refine JL_nil ?_
            refine JE_seq ?_
            -- stop: cond
            refine JC_cond rfl (fun h5 => ?_) (fun h5 => ?_)
            · refine JC_exit ?_
              refine JE_block_on rfl ?_
              refine JE_seq_exit ?_
              refine JE_then_exit ?_
              refine JE_block_on rfl ?_
              refine JE_seq_exit ?_
              refine JE_block_here ?_
              refine JE_seq ?_
              refine JC_region ?_
              refine JL_pd rfl (det_add rfl rfl ⟨by omega, by omega⟩) ?_
              refine JL_pd rfl (det_move rfl) ?_
              refine JL_nil ?_
              -- stop: end
              simp only [setL_get] at h4
              refine JE_round hK (i + 1, st, r) ⟨by simp only; omega, ?_, hr1, hr2⟩ (by simp only; omega) (stsub_cons rfl (stsub_cons rfl (stsub_cons rfl (stsub_cons rfl (stsub_cons rfl (stsub_cons rfl stsub_nil)))))) (hsub_cons (hsub_cons hsub_nil)) Knows.know
              simp only
              rw [hfold, hskip (.inr ⟨n, by omega, by simp at h4; simp [pairOk, h4]⟩)]
            · refine JC_skip ?_
              refine JE_block ?_
              refine JE_seq ?_
              refine JC_region ?_
              refine JL_pd rfl (det_add rfl rfl ⟨by omega, by omega⟩) ?_
              refine JL_pd rfl (det_move rfl) ?_
              refine JL_nil ?_
              -- stop: end
              exact absurd h5 (by simp)
          · refine JL_guard rfl rfl h4 ?_
            refine JL_pd rfl (det_move rfl) ?_
            refine JL_guard rfl rfl h4 ?_
            refine JL_pd rfl (det_fieldAddr rfl fo_39_0) ?_
            refine JL_guard rfl rfl h4 ?_
            refine JL_dt rfl (det_loadK rfl Try.isAgg3 rfl) ?_
            refine JL_guard rfl rfl h4 ?_
            refine JL_pd rfl (det_move rfl) ?_
            refine JL_guard rfl rfl h4 ?_
            refine JL_pd rfl (det_add rfl rfl ⟨by omega, by omega⟩) ?_
            refine JL_guard rfl rfl h4 ?_
            refine JL_pd rfl (det_fieldAddr rfl fo_39_1) ?_
            refine JL_guard rfl rfl h4 ?_
            refine JL_dt rfl (det_loadK rfl Try.isAgg3 rfl) ?_
            refine JL_guard rfl rfl h4 ?_
            refine JL_pd rfl (det_build rfl (bld_39_0_1 _ _)) ?_
            refine JL_guard rfl rfl h4 ?_
            -- stop: op 19 t64 := (lookup 114 t56 t63 false)   <11 18 10>   158
            refine JL_dt rfl (det_lookup1B ⟨((aimsL l p)[i]).b + n, ((aimsL l p)[i]).d⟩ rfl rfl goodSt Try.underlying114 Try.zeroValue4) ?_
            refine JL_guard rfl rfl h4 ?_
            refine JL_pd rfl (det_not rfl) ?_
            refine JL_pd rfl (det_pick_f rfl h4 rfl) ?_
            refine JL_nil ?_
            refine JE_seq ?_
            -- stop: cond
            refine JC_cond rfl (fun h5 => ?_) (fun h5 => ?_)
            · refine JC_exit ?_
              refine JE_block_on rfl ?_
              refine JE_seq_exit ?_
              refine JE_then_exit ?_
              refine JE_block_on rfl ?_
              refine JE_seq_exit ?_
              refine JE_block_here ?_
              refine JE_seq ?_
              refine JC_region ?_
              refine JL_pd rfl (det_add rfl rfl ⟨by omega, by omega⟩) ?_
              refine JL_pd rfl (det_move rfl) ?_
              refine JL_nil ?_
              -- stop: end
              simp only [setL_get] at h4 h5
              refine JE_round hK (i + 1, st, r) ⟨by simp only; omega, ?_, hr1, hr2⟩ (by simp only; omega) (stsub_cons rfl (stsub_cons rfl (stsub_cons rfl (stsub_cons rfl (stsub_cons rfl (stsub_cons rfl stsub_nil)))))) (hsub_cons (hsub_cons hsub_nil)) Knows.know
              simp only
              rw [hfold, hskip (.inr ⟨n, by omega, by simp at h5; simp [pairOk, h5]⟩)]
            · refine JC_skip ?_
              refine JE_block ?_
              refine JE_seq ?_
              refine JC_region ?_
              refine JL_pd rfl (det_add rfl rfl ⟨by omega, by omega⟩) ?_
              refine JL_pd rfl (det_move rfl) ?_
              refine JL_nil ?_
              -- stop: end
              simp only [setL_get] at h4 h5
              refine JE_round hK3 (n + 1) ⟨by omega, fun m hm => ?_⟩ (by omega) (stsub_consI rfl (by omega) (stsub_cons rfl (stsub_cons rfl (stsub_cons rfl (stsub_cons rfl (stsub_cons rfl (stsub_cons rfl (stsub_cons rfl (stsub_cons rfl stsub_nil))))))))) (hsub_cons (hsub_cons (hsub_bx rfl hsub_nil))) Knows.know
              by_cases e : m = n
              · subst e; simp at h4 h5; simp [pairOk, h4, h5]
              · exact hok m (by omega)
        · refine JC_exit ?_
          refine JE_seq_exit ?_
          refine JE_then_exit ?_
          refine JE_block_here ?_
          refine JE_seq ?_
          refine JC_seq ?_
          refine JC_region ?_
          refine JL_dt rfl (det_loadKA rfl Try.isAgg39 Try.sizeOf39 rfl rfl) ?_
          refine JL_step0 rfl rfl (jo_store rfl rfl rfl (by first | (simp only [splice_norm]; done) | (simp only [splice_norm]; rfl) | rfl) Try.sizeOf39 rfl rfl) fun _ => ?_
          refine JL_nil ?_
          refine JE_seq ?_
          refine JC_block ?_
          -- stop: loop
          have hn2 : (n : Int) = r + 2 := by omega
          refine JC_loop (γ := Nat) (I := fun k => n ≤ k + 1 ∧ (∀ m, m < k → pairOk (aimsL l p) ((aimsL l p)[i]) m = true) ∧ k ≤ 60)
            (st' := fun k => [(5, I ((k : Int) - 1)), (36, I i), (35, I (aimsL l p).length), (34, .slice a (aimsL l p).length cap), (8, .map (some b24)), (4, pt b4), (12, pt b12)])
            (H' := fun n => [mp b24 ekSt vB (setL (aimsL l p)), bx b4 [I ((aimsL l p)[i]).b, I ((aimsL l p)[i]).d], bx b12 [I ((aimsL l p)[i]).b, I ((aimsL l p)[i]).d]]) (R' := fun _ => KSl a (aimsL l p).length cap encSt (aimsL l p)) (μ := fun k => 60 - k) (n - 1) ⟨by omega, fun m hm => hok m (by omega), by omega⟩
            (stsub_consI rfl (by omega) (stsub_cons rfl (stsub_cons rfl (stsub_cons rfl (stsub_cons rfl (stsub_cons rfl (stsub_cons rfl stsub_nil))))))) (hsub_cons (hsub_bx rfl (hsub_bx rfl hsub_nil))) Knows.know ?_
          rintro k ⟨hk1, hk2, hk3⟩ K4 hK4
          (try dsimp only at hk1 hk2 hk3 ⊢)
          refine JC_seq ?_
          refine JC_seq ?_
          refine JC_region ?_
          refine JL_pd rfl (det_move rfl) ?_
          refine JL_pd rfl (det_fieldAddr rfl fo_39_0) ?_
          refine JL_dt rfl (det_loadK rfl Try.isAgg3 rfl) ?_
          refine JL_pd rfl (det_move rfl) ?_
          refine JL_pd rfl (det_sub rfl rfl ⟨by omega, by omega⟩) ?_
          refine JL_pd rfl (det_sub rfl rfl ⟨by omega, by omega⟩) ?_
          refine JL_pd rfl (det_fieldAddr rfl fo_39_1) ?_
          refine JL_dt rfl (det_loadK rfl Try.isAgg3 rfl) ?_
          refine JL_pd rfl (det_build rfl (bld_39_0_1 _ _)) ?_
          -- stop: op  9 t78 := (lookup 114 t69 t77 false)   <0 8>   164
          have e1 : ((aimsL l p)[i]).b - ((k : Int) - 1) - 1 = ((aimsL l p)[i]).b - k := by omega
          have e2 : ((aimsL l p)[i]).b + ((k : Int) - 1) + 1 = ((aimsL l p)[i]).b + k := by omega
          have hout : pairOk (aimsL l p) ((aimsL l p)[i]) k = false → k < 60 → bestS (aimsL l p) (st, r) ((aimsL l p)[i]) = (((aimsL l p)[i]), (k : Int) - 1) := by
            intro h hk
            have hnk : n ≤ k := by
              rcases Nat.lt_or_ge k n with h9 | h9
              · rw [hok k h9] at h; cases h
              · exact h9
            unfold bestS
            rw [roomN_eq hk2 h hk, if_pos (by show r < _; omega)]
          have hk41 : k ≤ 41 := by
            rcases Nat.lt_or_ge k 42 with h | h
            · omega
            · have := pairOk_bd v2 (hk2 41 (by omega)) hsb.1
              omega
          have hk60 : k < 60 := by omega
          refine JL_dt rfl (det_lookup1B ⟨((aimsL l p)[i]).b - ((k : Int) - 1) - 1, ((aimsL l p)[i]).d⟩ rfl rfl goodSt Try.underlying114 Try.zeroValue4) ?_
          refine JL_pd rfl (det_move rfl) ?_
          -- stop: guard 10
          refine JL_split (d0 := 79) rfl (fun h4 => ?_) (fun h4 => ?_)
          · refine JL_guard rfl rfl h4 ?_
            refine JL_pd rfl (det_move rfl) ?_
            refine JL_guard rfl rfl h4 ?_
            refine JL_pd rfl (det_fieldAddr rfl fo_39_0) ?_
            refine JL_guard rfl rfl h4 ?_
            refine JL_dt rfl (det_loadK rfl Try.isAgg3 rfl) ?_
            refine JL_guard rfl rfl h4 ?_
            refine JL_pd rfl (det_move rfl) ?_
            refine JL_guard rfl rfl h4 ?_
            refine JL_pd rfl (det_add rfl rfl ⟨by omega, by omega⟩) ?_
            refine JL_guard rfl rfl h4 ?_
            refine JL_pd rfl (det_add rfl rfl ⟨by omega, by omega⟩) ?_
            refine JL_guard rfl rfl h4 ?_
            refine JL_pd rfl (det_fieldAddr rfl fo_39_1) ?_
            refine JL_guard rfl rfl h4 ?_
            refine JL_dt rfl (det_loadK rfl Try.isAgg3 rfl) ?_
            refine JL_guard rfl rfl h4 ?_
            refine JL_pd rfl (det_build rfl (bld_39_0_1 _ _)) ?_
            refine JL_guard rfl rfl h4 ?_
            -- stop: op 20 t89 := (lookup 114 t80 t88 false)   <11 19 10>   164
            refine JL_dt rfl (det_lookup1B ⟨((aimsL l p)[i]).b + ((k : Int) - 1) + 1, ((aimsL l p)[i]).d⟩ rfl rfl goodSt Try.underlying114 Try.zeroValue4) ?_
            refine JL_pd rfl (det_pick_t rfl h4 rfl) ?_
            refine JL_nil ?_
            refine JE_seq ?_
            -- stop: cond
            simp only [setL_get, e1, decide_eq_true_eq] at h4
            refine JC_cond rfl (fun h5 => ?_) (fun h5 => ?_)
            · refine JC_skip ?_
              refine JE_seq ?_
              refine JC_block ?_
              refine JC_region ?_
              refine JL_pd rfl (det_move rfl) ?_
              refine JL_pd rfl (det_add rfl rfl ⟨by omega, by omega⟩) ?_
              refine JL_pd rfl (det_assign rfl) ?_
              refine JL_nil ?_
              refine JE_block ?_
              -- stop: end
              simp only [setL_get, e2, decide_eq_true_eq] at h5
              have hp : pairOk (aimsL l p) ((aimsL l p)[i]) k = true := by simp [pairOk, h4, h5]
              refine JE_round hK4 (k + 1) ⟨by omega, fun m hm => ?_, by omega⟩ (by omega) (stsub_consI rfl (by omega) (stsub_cons rfl (stsub_cons rfl (stsub_cons rfl (stsub_cons rfl (stsub_cons rfl (stsub_cons rfl stsub_nil))))))) (hsub_cons (hsub_bx rfl (hsub_bx rfl hsub_nil))) Knows.know
              by_cases e : m = k
              · subst e; exact hp
              · exact hk2 m (by omega)
            · refine JC_exit ?_
              refine JE_seq_exit ?_
              refine JE_then_exit ?_
              refine JE_block_here ?_
              refine JE_block ?_
              refine JE_seq ?_
              refine JC_region ?_
              refine JL_pd rfl (det_add rfl rfl ⟨by omega, by omega⟩) ?_
              refine JL_pd rfl (det_move rfl) ?_
              refine JL_nil ?_
              -- stop: end
              simp only [setL_get, e2, decide_eq_false_iff_not] at h5
              have hp : pairOk (aimsL l p) ((aimsL l p)[i]) k = false := by simp [pairOk, h5]
              refine JE_round hK (i + 1, ((aimsL l p)[i]), (k : Int) - 1) ⟨by simp only; omega, ?_, by simp only; omega, by simp only; omega⟩ (by simp only; omega) (stsub_cons rfl (stsub_cons rfl (stsub_cons rfl (stsub_cons rfl (stsub_cons rfl (stsub_cons rfl stsub_nil)))))) (hsub_cons (hsub_bx rfl hsub_nil)) Knows.know
              simp only
              rw [hfold, hout hp hk60]
          · refine JL_skip rfl rfl h4 rfl ?_
            refine JL_skip rfl rfl h4 rfl ?_
            refine JL_skip rfl rfl h4 rfl ?_
            refine JL_skip rfl rfl h4 rfl ?_
            refine JL_skip rfl rfl h4 rfl ?_
            refine JL_skip rfl rfl h4 rfl ?_
            refine JL_skip rfl rfl h4 rfl ?_
            refine JL_skip rfl rfl h4 rfl ?_
            refine JL_skip rfl rfl h4 rfl ?_
            refine JL_skip rfl rfl h4 rfl ?_
            refine JL_pd rfl (det_pick_f rfl h4 rfl) ?_
            refine JL_nil ?_
            refine JE_seq ?_
            -- stop: cond
            simp only [setL_get, e1, decide_eq_false_iff_not] at h4
            have hp : pairOk (aimsL l p) ((aimsL l p)[i]) k = false := by simp [pairOk, h4]
            refine JC_cond rfl (fun h5 => ?_) (fun h5 => ?_)
            · refine JC_skip ?_
              refine JE_seq ?_
              refine JC_block ?_
              refine JC_region ?_
              refine JL_pd rfl (det_move rfl) ?_
              refine JL_pd rfl (det_add rfl rfl ⟨by omega, by omega⟩) ?_
              refine JL_pd rfl (det_assign rfl) ?_
              refine JL_nil ?_
              refine JE_block ?_
              -- stop: end
              exact absurd h5 (by simp)
            · refine JC_exit ?_
              refine JE_seq_exit ?_
              refine JE_then_exit ?_
              refine JE_block_here ?_
              refine JE_block ?_
              refine JE_seq ?_
              refine JC_region ?_
              refine JL_pd rfl (det_add rfl rfl ⟨by omega, by omega⟩) ?_
              refine JL_pd rfl (det_move rfl) ?_
              refine JL_nil ?_
              -- stop: end
              refine JE_round hK (i + 1, ((aimsL l p)[i]), (k : Int) - 1) ⟨by simp only; omega, ?_, by simp only; omega, by simp only; omega⟩ (by simp only; omega) (stsub_cons rfl (stsub_cons rfl (stsub_cons rfl (stsub_cons rfl (stsub_cons rfl (stsub_cons rfl stsub_nil)))))) (hsub_cons (hsub_bx rfl hsub_nil)) Knows.know
              simp only
              rw [hfold, hout hp hk60]
      · refine JC_exit ?_
        refine JE_seq_exit ?_
        refine JE_then_exit ?_
        refine JE_block_here ?_
        refine JE_seq ?_
        refine JC_seq ?_
        refine JC_seq ?_
        refine JC_region ?_
        refine JL_pd rfl (det_move rfl) ?_
        refine JL_pd rfl (det_lss rfl rfl) ?_
        refine JL_nil ?_
        refine JE_seq ?_
        -- stop: cond
        have hie : i = (aimsL l p).length := by omega
        have hb : bestF (aimsL l p) = (st, r) := by rw [hq, hie, List.take_length]; rfl
        rw [hb]
        refine JC_if rfl (fun h3 => ?_) (fun h3 => ?_)
        · refine JC_seq ?_
          refine JC_region ?_
          refine JL_pd rfl (det_build rfl (bld_39)) ?_
          refine JL_step0 rfl rfl (jo_store rfl rfl rfl (by first | (simp only [splice_norm]; done) | (simp only [splice_norm]; rfl) | rfl) Try.sizeOf39 rfl rfl) fun _ => ?_
          refine JL_pd rfl (det_assign rfl) ?_
          refine JL_pd rfl (det_assign rfl) ?_
          refine JL_nil ?_
          refine JE_seq ?_
          refine JC_ret ?_
          refine JE_seq_ret ?_
          refine JE_scope_ret ?_
          -- stop: out
          refine JE_out (.inl rfl) () (results3 Try.results31 (res_box rfl Try.isAgg39 Try.sizeOf39 rfl) (res_tmp rfl) (res_tmp rfl)) (by simp [h3]) (List.Perm.refl _) (fun _ _ => trivial)
        · refine JC_skip ?_
          refine JE_seq ?_
          refine JC_seq ?_
          refine JC_region ?_
          refine JL_dt rfl (det_loadKA rfl Try.isAgg39 Try.sizeOf39 rfl rfl) ?_
          refine JL_pd rfl (det_move rfl) ?_
          refine JL_step0 rfl rfl (jo_store rfl rfl rfl (by first | (simp only [splice_norm]; done) | (simp only [splice_norm]; rfl) | rfl) Try.sizeOf39 rfl rfl) fun _ => ?_
          refine JL_pd rfl (det_assign rfl) ?_
          refine JL_pd rfl (det_assign rfl) ?_
          refine JL_nil ?_
          refine JE_seq ?_
          refine JC_ret ?_
          refine JE_scope_ret ?_
          -- stop: out
          refine JE_out (.inl rfl) () (results3 Try.results31 (res_box rfl Try.isAgg39 Try.sizeOf39 rfl) (res_tmp rfl) (res_tmp rfl)) (by simp [h3]) (List.Perm.refl _) (fun _ _ => trivial)
end Go.Proofs.Ytcfhbnfincpehaa
