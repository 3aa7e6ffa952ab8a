/- Own texts, laid together: W1 RefA PathA PathB PathC PathD PathE Keys SpecR PathG Shelf PathH PathI PathJ PathK PathL. Nothing is asked. -/
import Derived.Test.YthpkgabckklojaaGreatJF
import Derived.Test.YthpkgabckklojaaGreatS3
import Derived.Test.YthpkgabckklojaaGreatChecked
import Derived.Test.YthpkgabckklojaaGreatS1
import Derived.Deep.LoopGhost
import Derived.Shelf.SlGeneric
import Derived.Shelf.SlSortCmp.WholeK
import Derived.Ground.SlsfProg
import Derived.Test.YthpkgabckklojaaGreatProg
import Derived.Shelf.SlSortCmp.NoneTotal
set_option linter.unusedSimpArgs false
set_option linter.unusedVariables false
/- Walks of package path: ranges, lanes. -/
namespace Go.Proofs.YthpkgabckklojaaGreat
open Go.RowKit Go.Shelf
instance : Rec encRg 2 := ⟨encRg_len, by decide⟩
instance : Rec encPa 5 := ⟨encPa_len, by decide⟩
instance : Rec encSt 2 := ⟨encSt_len, by decide⟩
instance : Rec encI 1 := ⟨encI_len, by decide⟩

theorem within_j (n lo hi : Int) : Cv Tryz.prog 53 [I n, I lo, I hi] KTrue (.bool (decide (lo ≤ n ∧ n ≤ hi))) := by
  refine Cx_of Tryz.func53 rfl Tryz.ntmps53 rfl fun w0 M0 => ?_
  refine JC_seq ?_
  refine JC_region ?_
  refine JL_pd rfl (det_assign rfl) ?_
  refine JL_nil ?_
  refine JE_seq ?_
  refine JC_seq ?_
  refine JC_region ?_
  refine JL_pd rfl (det_move rfl) ?_
  refine JL_pd rfl (det_move rfl) ?_
  refine JL_pd rfl (det_leq rfl rfl) ?_
  refine JL_pd rfl (det_move rfl) ?_
  refine JL_split (d0 := 10) rfl (fun h1 => ?_) (fun h1 => ?_)
  · refine JL_guard rfl rfl h1 ?_
    refine JL_pd rfl (det_move rfl) ?_
    refine JL_guard rfl rfl h1 ?_
    refine JL_pd rfl (det_move rfl) ?_
    refine JL_guard rfl rfl h1 ?_
    refine JL_pd rfl (det_leq rfl rfl) ?_
    refine JL_pd rfl (det_pick_t rfl h1 rfl) ?_
    refine JL_pd rfl (det_assign rfl) ?_
    refine JL_nil ?_
    refine JE_seq ?_
    refine JC_ret ?_
    refine JE_out (.inl rfl) () (results1 Tryz.results53 (res_tmp rfl)) ?_ (List.Perm.refl _) (fun _ _ => trivial)
    (simp_all)
    (try omega)
  · refine JL_skip rfl rfl h1 rfl ?_
    refine JL_skip rfl rfl h1 rfl ?_
    refine JL_skip rfl rfl h1 rfl ?_
    refine JL_pd rfl (det_pick_f rfl h1 rfl) ?_
    refine JL_pd rfl (det_assign rfl) ?_
    refine JL_nil ?_
    refine JE_seq ?_
    refine JC_ret ?_
    refine JE_out (.inl rfl) () (results1 Tryz.results53 (res_tmp rfl)) ?_ (List.Perm.refl _) (fun _ _ => trivial)
    (simp_all)
    (try omega)
theorem has_j (r : Rg) (n : Int) : Cv Tryz.prog 46 [.agg #[I r.lo, I r.hi], I n] KTrue (.bool (inR n r)) := by
  refine Cx_of Tryz.func46 rfl Tryz.ntmps46 rfl fun w0 M0 => ?_
  refine JC_seq ?_
  refine JC_region ?_
  refine JL_step rfl rfl rfl (jo_box rfl rfl) fun b2 => ?_
  refine JL_pd rfl (det_assign rfl) ?_
  refine JL_nil ?_
  refine JE_seq ?_
  refine JC_seq ?_
  refine JC_region ?_
  refine JL_pd rfl (det_move rfl) ?_
  refine JL_pd rfl (det_fieldAddr rfl fo_112_0) ?_
  refine JL_dt rfl (det_loadK rfl Tryz.isAgg3 rfl) ?_
  refine JL_pd rfl (det_fieldAddr rfl fo_112_1) ?_
  refine JL_dt rfl (det_loadK rfl Tryz.isAgg3 rfl) ?_
  refine JL_step rfl rfl rfl (jo_callv rfl rfl Tryz.call53 rfl (within_j _ _ _)) fun _ => ?_
  refine JL_pd rfl (det_assign rfl) ?_
  refine JL_nil ?_
  refine JE_seq ?_
  refine JC_ret ?_
  refine JE_out (.inl rfl) () (results1 Tryz.results46 (res_tmp rfl)) ?_ (List.Perm.refl _) (fun _ _ => trivial)
  rfl
theorem inside_j (r : Rg) (lo hi : Int) : Cv Tryz.prog 190 [.agg #[I r.lo, I r.hi], I lo, I hi] KTrue (.bool (okRg r lo hi)) := by
  refine Cx_of Tryz.func190 rfl Tryz.ntmps190 rfl fun w0 M0 => ?_
  refine JC_seq ?_
  refine JC_region ?_
  refine JL_step rfl rfl rfl (jo_box rfl rfl) fun b3 => ?_
  refine JL_pd rfl (det_assign rfl) ?_
  refine JL_nil ?_
  refine JE_seq ?_
  refine JC_seq ?_
  refine JC_region ?_
  refine JL_pd rfl (det_move rfl) ?_
  refine JL_pd rfl (det_fieldAddr rfl fo_112_0) ?_
  refine JL_dt rfl (det_loadK rfl Tryz.isAgg3 rfl) ?_
  refine JL_pd rfl (det_leq rfl rfl) ?_
  refine JL_pd rfl (det_move rfl) ?_
  refine JL_split (d0 := 11) rfl (fun h1 => ?_) (fun h1 => ?_)
  · refine JL_guard rfl rfl h1 ?_
    refine JL_pd rfl (det_fieldAddr rfl fo_112_0) ?_
    refine JL_guard rfl rfl h1 ?_
    refine JL_dt rfl (det_loadK rfl Tryz.isAgg3 rfl) ?_
    refine JL_guard rfl rfl h1 ?_
    refine JL_pd rfl (det_fieldAddr rfl fo_112_1) ?_
    refine JL_guard rfl rfl h1 ?_
    refine JL_dt rfl (det_loadK rfl Tryz.isAgg3 rfl) ?_
    refine JL_guard rfl rfl h1 ?_
    refine JL_pd rfl (det_leq rfl rfl) ?_
    refine JL_pd rfl (det_pick_t rfl h1 rfl) ?_
    refine JL_pd rfl (det_move rfl) ?_
    refine JL_split (d0 := 18) rfl (fun h2 => ?_) (fun h2 => ?_)
    · refine JL_guard rfl rfl h2 ?_
      refine JL_pd rfl (det_fieldAddr rfl fo_112_1) ?_
      refine JL_guard rfl rfl h2 ?_
      refine JL_dt rfl (det_loadK rfl Tryz.isAgg3 rfl) ?_
      refine JL_guard rfl rfl h2 ?_
      refine JL_pd rfl (det_move rfl) ?_
      refine JL_guard rfl rfl h2 ?_
      refine JL_pd rfl (det_leq rfl rfl) ?_
      refine JL_pd rfl (det_pick_t rfl h2 rfl) ?_
      refine JL_pd rfl (det_assign rfl) ?_
      refine JL_nil ?_
      refine JE_seq ?_
      refine JC_ret ?_
      refine JE_out (.inl rfl) () (results1 Tryz.results190 (res_tmp rfl)) ?_ (List.Perm.refl _) (fun _ _ => trivial)
      (simp_all [okRg])
      (try omega)
    · refine JL_skip rfl rfl h2 rfl ?_
      refine JL_skip rfl rfl h2 rfl ?_
      refine JL_skip rfl rfl h2 rfl ?_
      refine JL_skip rfl rfl h2 rfl ?_
      refine JL_pd rfl (det_pick_f rfl h2 rfl) ?_
      refine JL_pd rfl (det_assign rfl) ?_
      refine JL_nil ?_
      refine JE_seq ?_
      refine JC_ret ?_
      refine JE_out (.inl rfl) () (results1 Tryz.results190 (res_tmp rfl)) ?_ (List.Perm.refl _) (fun _ _ => trivial)
      (simp_all [okRg])
      (try omega)
  · refine JL_skip rfl rfl h1 rfl ?_
    refine JL_skip rfl rfl h1 rfl ?_
    refine JL_skip rfl rfl h1 rfl ?_
    refine JL_skip rfl rfl h1 rfl ?_
    refine JL_skip rfl rfl h1 rfl ?_
    refine JL_pd rfl (det_pick_f rfl h1 rfl) ?_
    refine JL_pd rfl (det_move rfl) ?_
    refine JL_split (d0 := 18) rfl (fun h3 => ?_) (fun h3 => ?_)
    · refine JL_guard rfl rfl h3 ?_
      refine JL_pd rfl (det_fieldAddr rfl fo_112_1) ?_
      refine JL_guard rfl rfl h3 ?_
      refine JL_dt rfl (det_loadK rfl Tryz.isAgg3 rfl) ?_
      refine JL_guard rfl rfl h3 ?_
      refine JL_pd rfl (det_move rfl) ?_
      refine JL_guard rfl rfl h3 ?_
      refine JL_pd rfl (det_leq rfl rfl) ?_
      refine JL_pd rfl (det_pick_t rfl h3 rfl) ?_
      refine JL_pd rfl (det_assign rfl) ?_
      refine JL_nil ?_
      refine JE_seq ?_
      refine JC_ret ?_
      refine JE_out (.inl rfl) () (results1 Tryz.results190 (res_tmp rfl)) ?_ (List.Perm.refl _) (fun _ _ => trivial)
      (simp_all [okRg])
      (try omega)
    · refine JL_skip rfl rfl h3 rfl ?_
      refine JL_skip rfl rfl h3 rfl ?_
      refine JL_skip rfl rfl h3 rfl ?_
      refine JL_skip rfl rfl h3 rfl ?_
      refine JL_pd rfl (det_pick_f rfl h3 rfl) ?_
      refine JL_pd rfl (det_assign rfl) ?_
      refine JL_nil ?_
      refine JE_seq ?_
      refine JC_ret ?_
      refine JE_out (.inl rfl) () (results1 Tryz.results190 (res_tmp rfl)) ?_ (List.Perm.refl _) (fun _ _ => trivial)
      (simp_all [okRg])
      (try omega)
theorem hook_j (r : Rg) : Cv Tryz.prog 140 [.agg #[I r.lo, I r.hi]] KTrue (.bool (okRg r (-3) 3)) := by
  refine Cx_of Tryz.func140 rfl Tryz.ntmps140 rfl fun w0 M0 => ?_
  refine JC_seq ?_
  refine JC_region ?_
  refine JL_step rfl rfl rfl (jo_box rfl rfl) fun b1 => ?_
  refine JL_pd rfl (det_assign rfl) ?_
  refine JL_nil ?_
  refine JE_seq ?_
  refine JC_seq ?_
  refine JC_region ?_
  refine JL_dt rfl (det_loadKA rfl Tryz.isAgg112 Tryz.sizeOf112 rfl rfl) ?_
  refine JL_step rfl rfl rfl (jo_callv rfl rfl Tryz.call190 rfl (inside_j ⟨_, _⟩ _ _)) fun _ => ?_
  refine JL_pd rfl (det_assign rfl) ?_
  refine JL_nil ?_
  refine JE_seq ?_
  refine JC_ret ?_
  refine JE_out (.inl rfl) () (results1 Tryz.results140 (res_tmp rfl)) ?_ (List.Perm.refl _) (fun _ _ => trivial)
  rfl
theorem on_j (l : La) (ha pa : Option Addr) (hc pc : Nat) (s : St) : Cv Tryz.prog 48 [.agg #[I l.boards, I l.rows, .slice ha l.hooks.length hc, .slice pa l.patches.length pc], .agg #[I s.b, I s.d]] KTrue (.bool (onL l s)) := by
  refine Cx_of Tryz.func48 rfl Tryz.ntmps48 rfl fun w0 M0 => ?_
  refine JC_seq ?_
  refine JC_region ?_
  refine JL_step rfl rfl rfl (jo_box rfl rfl) fun b2 => ?_
  refine JL_step rfl rfl rfl (jo_box rfl rfl) fun b3 => ?_
  refine JL_pd rfl (det_assign rfl) ?_
  refine JL_nil ?_
  refine JE_seq ?_
  refine JC_seq ?_
  refine JC_region ?_
  refine JL_pd rfl (det_fieldAddr rfl fo_49_0) ?_
  refine JL_dt rfl (det_loadK rfl Tryz.isAgg3 rfl) ?_
  refine JL_pd rfl (det_fieldAddr rfl fo_47_0) ?_
  refine JL_dt rfl (det_loadK rfl Tryz.isAgg3 rfl) ?_
  refine JL_step rfl rfl rfl (jo_callv rfl rfl Tryz.call53 rfl (within_j _ _ _)) fun _ => ?_
  refine JL_pd rfl (det_assign rfl) ?_
  refine JL_nil ?_
  refine JE_seq ?_
  refine JC_ret ?_
  refine JE_out (.inl rfl) () (results1 Tryz.results48 (res_tmp rfl)) ?_ (List.Perm.refl _) (fun _ _ => trivial)
  rfl
theorem patch_j (l : La) (p : Pa) (ha pa : Option Addr) (hc pc : Nat) (h1 : 1 ≤ l.rows) (h2 : l.rows ≤ 12) (h3 : 0 < l.hooks.length) (h4 : l.hooks.length ≤ 4) :
    Cv Tryz.prog 142 [.agg #[I l.boards, I l.rows, .slice ha l.hooks.length hc, .slice pa l.patches.length pc], .agg #[I p.rows.lo, I p.rows.hi, I p.boards.lo, I p.boards.hi, I p.level]] KTrue (.bool (okPa l p)) := by
  refine Cx_of Tryz.func142 rfl Tryz.ntmps142 rfl fun w0 M0 => ?_
  refine JC_seq ?_
  refine JC_region ?_
  refine JL_step rfl rfl rfl (jo_box rfl rfl) fun b2 => ?_
  refine JL_step rfl rfl rfl (jo_box rfl rfl) fun b3 => ?_
  refine JL_pd rfl (det_assign rfl) ?_
  refine JL_nil ?_
  refine JE_seq ?_
  refine JC_seq ?_
  refine JC_region ?_
  refine JL_pd rfl (det_fieldAddr rfl fo_124_0) ?_
  refine JL_dt rfl (det_loadKA rfl Tryz.isAgg112 Tryz.sizeOf112 rfl rfl) ?_
  refine JL_pd rfl (det_fieldAddr rfl fo_47_1) ?_
  refine JL_dt rfl (det_loadK rfl Tryz.isAgg3 rfl) ?_
  refine JL_pd rfl (det_sub rfl rfl ⟨by omega, by omega⟩) ?_
  refine JL_step rfl rfl rfl (jo_callv rfl rfl Tryz.call190 rfl (inside_j ⟨_, _⟩ _ _)) fun _ => ?_
  refine JL_pd rfl (det_move rfl) ?_
  refine JL_split (d0 := 11) rfl (fun h1 => ?_) (fun h1 => ?_)
  · refine JL_guard rfl rfl h1 ?_
    refine JL_pd rfl (det_fieldAddr rfl fo_124_1) ?_
    refine JL_guard rfl rfl h1 ?_
    refine JL_dt rfl (det_loadKA rfl Tryz.isAgg112 Tryz.sizeOf112 rfl rfl) ?_
    refine JL_guard rfl rfl h1 ?_
    refine JL_pd rfl (det_fieldAddr rfl fo_47_0) ?_
    refine JL_guard rfl rfl h1 ?_
    refine JL_dt rfl (det_loadK rfl Tryz.isAgg3 rfl) ?_
    refine JL_guard rfl rfl h1 ?_
    refine JL_step rfl rfl rfl (jo_callv rfl rfl Tryz.call190 rfl (inside_j ⟨_, _⟩ _ _)) fun _ => ?_
    refine JL_pd rfl (det_pick_t rfl h1 rfl) ?_
    refine JL_pd rfl (det_move rfl) ?_
    refine JL_split (d0 := 18) rfl (fun h2 => ?_) (fun h2 => ?_)
    · refine JL_guard rfl rfl h2 ?_
      refine JL_pd rfl (det_fieldAddr rfl fo_124_2) ?_
      refine JL_guard rfl rfl h2 ?_
      refine JL_dt rfl (det_loadK rfl Tryz.isAgg3 rfl) ?_
      refine JL_guard rfl rfl h2 ?_
      refine JL_pd rfl (det_fieldAddr rfl fo_47_2) ?_
      refine JL_guard rfl rfl h2 ?_
      refine JL_dt rfl (det_loadK rfl Tryz.isAgg44 rfl) ?_
      refine JL_guard rfl rfl h2 ?_
      refine JL_pd rfl (det_len rfl Tryz.runUnderlying44) ?_
      refine JL_guard rfl rfl h2 ?_
      refine JL_pd rfl (det_sub rfl rfl ⟨by omega, by omega⟩) ?_
      refine JL_guard rfl rfl h2 ?_
      refine JL_step rfl rfl rfl (jo_callv rfl rfl Tryz.call53 rfl (within_j _ _ _)) fun _ => ?_
      refine JL_pd rfl (det_pick_t rfl h2 rfl) ?_
      refine JL_pd rfl (det_assign rfl) ?_
      refine JL_nil ?_
      refine JE_seq ?_
      refine JC_ret ?_
      refine JE_out (.inl rfl) () (results1 Tryz.results142 (res_tmp rfl)) ?_ (List.Perm.refl _) (fun _ _ => trivial)
      (simp_all [okPa])
    · refine JL_skip rfl rfl h2 rfl ?_
      refine JL_skip rfl rfl h2 rfl ?_
      refine JL_skip rfl rfl h2 rfl ?_
      refine JL_skip rfl rfl h2 rfl ?_
      refine JL_skip rfl rfl h2 rfl ?_
      refine JL_skip rfl rfl h2 rfl ?_
      refine JL_skip rfl rfl h2 rfl ?_
      refine JL_pd rfl (det_pick_f rfl h2 rfl) ?_
      refine JL_pd rfl (det_assign rfl) ?_
      refine JL_nil ?_
      refine JE_seq ?_
      refine JC_ret ?_
      refine JE_out (.inl rfl) () (results1 Tryz.results142 (res_tmp rfl)) ?_ (List.Perm.refl _) (fun _ _ => trivial)
      (simp_all [okPa])
  · refine JL_skip rfl rfl h1 rfl ?_
    refine JL_skip rfl rfl h1 rfl ?_
    refine JL_skip rfl rfl h1 rfl ?_
    refine JL_skip rfl rfl h1 rfl ?_
    refine JL_skip rfl rfl h1 rfl ?_
    refine JL_pd rfl (det_pick_f rfl h1 rfl) ?_
    refine JL_pd rfl (det_move rfl) ?_
    refine JL_split (d0 := 18) rfl (fun h3 => ?_) (fun h3 => ?_)
    · refine JL_guard rfl rfl h3 ?_
      refine JL_pd rfl (det_fieldAddr rfl fo_124_2) ?_
      refine JL_guard rfl rfl h3 ?_
      refine JL_dt rfl (det_loadK rfl Tryz.isAgg3 rfl) ?_
      refine JL_guard rfl rfl h3 ?_
      refine JL_pd rfl (det_fieldAddr rfl fo_47_2) ?_
      refine JL_guard rfl rfl h3 ?_
      refine JL_dt rfl (det_loadK rfl Tryz.isAgg44 rfl) ?_
      refine JL_guard rfl rfl h3 ?_
      refine JL_pd rfl (det_len rfl Tryz.runUnderlying44) ?_
      refine JL_guard rfl rfl h3 ?_
      refine JL_pd rfl (det_sub rfl rfl ⟨by omega, by omega⟩) ?_
      refine JL_guard rfl rfl h3 ?_
      refine JL_step rfl rfl rfl (jo_callv rfl rfl Tryz.call53 rfl (within_j _ _ _)) fun _ => ?_
      refine JL_pd rfl (det_pick_t rfl h3 rfl) ?_
      refine JL_pd rfl (det_assign rfl) ?_
      refine JL_nil ?_
      refine JE_seq ?_
      refine JC_ret ?_
      refine JE_out (.inl rfl) () (results1 Tryz.results142 (res_tmp rfl)) ?_ (List.Perm.refl _) (fun _ _ => trivial)
      (simp_all [okPa])
    · refine JL_skip rfl rfl h3 rfl ?_
      refine JL_skip rfl rfl h3 rfl ?_
      refine JL_skip rfl rfl h3 rfl ?_
      refine JL_skip rfl rfl h3 rfl ?_
      refine JL_skip rfl rfl h3 rfl ?_
      refine JL_skip rfl rfl h3 rfl ?_
      refine JL_skip rfl rfl h3 rfl ?_
      refine JL_pd rfl (det_pick_f rfl h3 rfl) ?_
      refine JL_pd rfl (det_assign rfl) ?_
      refine JL_nil ?_
      refine JE_seq ?_
      refine JC_ret ?_
      refine JE_out (.inl rfl) () (results1 Tryz.results142 (res_tmp rfl)) ?_ (List.Perm.refl _) (fun _ _ => trivial)
      (simp_all [okPa])
end Go.Proofs.YthpkgabckklojaaGreat

/- The walks of the reference's small functions (kingpinref04): In, span, Fault, IsStart, IsPocket, Hook, Next, Verdict, Less. Nothing is asked but how the arguments lie. -/
namespace Go.Proofs.YthpkgabckklojaaGreat
open Go.RowKit
attribute [local go_sem] lt_step le_step

/-- How the lists of a lane lie. -/
def LaneAt (w : World) (l : La) (ha : Option Addr) (hc : Nat) (pa : Option Addr) (pc : Nat) : Prop :=
  SlAt w ha l.hooks.length hc (l.hooks.flatMap encRg) ∧ SlAt w pa l.patches.length pc (l.patches.flatMap encPa)
theorem LaneAt.below {w w' : World} {l : La} {ha : Option Addr} {hc : Nat} {pa : Option Addr} {pc B : Nat} (h : LaneAt w l ha hc pa pc) (hb : Below B w w') (hB : w.heap.size ≤ B) : LaneAt w' l ha hc pa pc :=
  ⟨h.1.below hb hB, h.2.below hb hB⟩

theorem In_any (n lo hi : Int) (w : World) :
    Calls Tryz.prog 40 #[I n, I lo, I hi] w fun e w' => e = .returned (.bool (decide (lo ≤ n ∧ n ≤ hi))) ∧ w = w' := by
  go_enter Tryz.func40, Tryz.ntmps40
  go_wp2
  all_goals (go_ret; refine ⟨ret_bool ?_, rfl⟩; rw [Bool.eq_iff_iff]; simp <;> omega)

theorem span_any (a b lo hi : Int) (w : World) :
    Calls Tryz.prog 41 #[.agg #[I a, I b], I lo, I hi] w fun e w' => e = .returned (.bool (okRg ⟨a, b⟩ lo hi)) ∧ Below w.heap.size w w' := by
  go_enter Tryz.func41, Tryz.ntmps41
  go_wp2_with (go_at_call 40; refine Calls.mono (In_any _ _ _ _) ?_; rintro e w' ⟨rfl, rfl⟩)
  all_goals (go_ret; refine ⟨ret_bool ?_, (Below.refl _ _).alloc (Nat.le_refl _) _⟩; rw [Bool.eq_iff_iff]; simp [okRg] <;> omega)

set_option maxHeartbeats 800000 in
theorem Fault_any (l : La) (ha pa : Option Addr) (hc pc : Nat) (w : World) (H : LaneAt w l ha hc pa pc) :
    Calls Tryz.prog 6 #[.agg #[I l.boards, I l.rows, .slice ha l.hooks.length hc, .slice pa l.patches.length pc]] w fun e w' => e = .returned (I (fault l)) ∧ Below w.heap.size w w' := by
  have H2 := Lib.hid H
  clear H
  by_cases g1 : 8 < l.patches.length ∨ 4 < l.hooks.length ∨ ¬ (1 ≤ l.boards ∧ l.boards ≤ 40) ∨ ¬ (1 ≤ l.rows ∧ l.rows ≤ 12) ∨ l.hooks.length = 0
  · by_cases g2 : l.hooks.length = 0
    all_goals
      have e0 : ((l.hooks.length : Int) == 0) = decide (l.hooks.length = 0) := by rw [Bool.eq_iff_iff]; simp
      simp only [g2, decide_true, decide_false] at e0
      go_enter Tryz.func6, Tryz.ntmps6
      go_wp2_with (first | (go_at_call 40; refine Calls.mono (In_any _ _ _ _) ?_; rintro e w' ⟨rfl, rfl⟩) | fail)
      all_goals (first | (exfalso; omega) | (go_ret; refine ⟨ret_int ?_, (Below.refl _ _).alloc (Nat.le_refl _) _⟩; unfold fault; split <;> first | rfl | omega | (split <;> first | rfl | omega)))
  · have e0 : ((l.hooks.length : Int) == 0) = false := by simp; intro e; apply g1; simp [e]
    have p1 : l.patches.length ≤ 8 := by omega
    have p2 : l.hooks.length ≤ 4 := by omega
    have p3 : 1 ≤ l.boards := by omega
    have p4 : l.boards ≤ 40 := by omega
    have p5 : 1 ≤ l.rows := by omega
    have p6 : l.rows ≤ 12 := by omega
    clear g1
    have hF : Hid (fault l = if l.hooks.all (fun h => okRg h (-3) 3) = false then 1 else if l.patches.all (okPa l) = false then 1 else 0) := by
      have e1 : l.hooks.length ≠ 0 := by intro e; simp [e] at e0
      show fault l = _
      unfold fault; rw [if_neg (by omega), if_neg (by omega)]
    go_enter Tryz.func6, Tryz.ntmps6
    go_wp2_with (first | (go_at_call 40; refine Calls.mono (In_any _ _ _ _) ?_; rintro e w' ⟨rfl, rfl⟩) | fail)
    go_loopw [3] (fun i wr => ∃ k : Nat, i = I k ∧ k ≤ l.hooks.length ∧ (l.hooks.take k).all (fun h => okRg h (-3) 3) = true ∧ Below w.heap.size w wr ∧ Box wr w.heap.size [I l.boards, I l.rows, .slice ha l.hooks.length hc, .slice pa l.patches.length pc]) (fun i _ => l.hooks.length - (intOf i).toNat)
    case atStart => exact ⟨0, rfl, by omega, rfl, (Below.refl _ _).alloc (Nat.le_refl _) _, Box.new _ _ _⟩
    case round =>
      obtain ⟨k, rfl, hk, hok, hb, hx⟩ := hrel
      have hOK := Lib.hid hok
      clear hok
      have x2 := hx.cell 2 rfl
      have x3 := hx.cell 3 rfl
      have hz := hx.lt
      by_cases hlt : k < l.hooks.length
      · obtain ⟨b, o, rfl, hbl, hce⟩ := (H2.out.1.below hb (Nat.le_refl _)).rec 2 encRg_len (by decide) k hlt
        have c0 := hce 0 _ rfl
        have c1 := hce 1 _ rfl
        rw [Nat.add_zero] at c0
        clear hce
        go_wp2_with (first | (go_at_call 41; refine (span_any _ _ _ _ _).mono ?_; rintro e w1 ⟨rfl, hb1⟩) | fail)
        · go_ret
          refine ⟨ret_int ?_, hb.trans (hb1.mono hb.size)⟩
          rw [hF.out, if_pos]
          rename_i hno
          rw [List.all_eq_false]
          exact ⟨l.hooks[k], by simp, by simpa using hno⟩
        · rename_i hyes
          go_roundw
          case rel => exact ⟨k + 1, by go_num, by omega, by rw [List.take_succ_eq_append_getElem hlt, List.all_append, hOK.out]; simpa using hyes, hb.trans (hb1.mono hb.size), hx.later hb1⟩
          case measure => simp [intOf]; omega
      · have hO2 : Hid (l.hooks.all (fun h => okRg h (-3) 3) = true) := by have := hOK.out; rwa [List.take_of_length_le (by omega)] at this
        clear hOK
        go_wp2_with (first | (go_at_call 40; refine Calls.mono (In_any _ _ _ _) ?_; rintro e w' ⟨rfl, rfl⟩) | fail)
        go_loopw [4] (fun i wr => ∃ k : Nat, i = I k ∧ k ≤ l.patches.length ∧ (l.patches.take k).all (okPa l) = true ∧ Below w.heap.size w wr ∧ Box wr w.heap.size [I l.boards, I l.rows, .slice ha l.hooks.length hc, .slice pa l.patches.length pc]) (fun i _ => l.patches.length - (intOf i).toNat)
        case atStart => exact ⟨0, rfl, by omega, rfl, hb, hx⟩
        case round =>
          clear hb hx x2 x3 hz
          obtain ⟨j, rfl, hj, hok, hb, hx⟩ := hrel
          have hOK := Lib.hid hok
          clear hok
          have x0 := hx.cell 0 rfl
          have x1 := hx.cell 1 rfl
          have x2 := hx.cell 2 rfl
          have x3 := hx.cell 3 rfl
          have hz := hx.lt
          by_cases hlj : j < l.patches.length
          · obtain ⟨b, o, rfl, hbl, hce⟩ := (H2.out.2.below hb (Nat.le_refl _)).rec 5 encPa_len (by decide) j hlj
            have c0 := hce 0 _ rfl
            have c1 := hce 1 _ rfl
            have c2 := hce 2 _ rfl
            have c3 := hce 3 _ rfl
            have c4 := hce 4 _ rfl
            rw [Nat.add_zero] at c0
            clear hce
            go_wp2_with (first | (go_at_call 40; refine Calls.mono (In_any _ _ _ _) ?_; rintro e w' ⟨rfl, rfl⟩) | (go_at_call 41; refine Calls.mono (span_any _ _ _ _ _) ?_; rintro e w1 ⟨rfl, hbw1⟩; obtain ⟨hcw1, hfw1, hzw1⟩ := bcell hbw1; (try simp only [World.size_alloc] at hzw1); have := fun o => hcw1 (w.heap.size) o (by first | omega | (simp only [World.size_alloc]; omega) | (simp; done)); have := fun o => hfw1 (w.heap.size) o (by first | omega | (simp only [World.size_alloc]; omega) | (simp; done)); have := fun o => hcw1 (wr.heap.size) o (by first | omega | (simp only [World.size_alloc]; omega) | (simp; done)); have := fun o => hfw1 (wr.heap.size) o (by first | omega | (simp only [World.size_alloc]; omega) | (simp; done)); have := fun o => hcw1 (b) o (by first | omega | (simp only [World.size_alloc]; omega) | (simp; done)); have := fun o => hfw1 (b) o (by first | omega | (simp only [World.size_alloc]; omega) | (simp; done)); clear hcw1 hfw1) | fail)
            case roundEnd =>
              have e1 : okRg ⟨l.patches[j].rows.lo, l.patches[j].rows.hi⟩ 0 (l.rows - 1) = true := by assumption
              have e2 : okRg ⟨l.patches[j].boards.lo, l.patches[j].boards.hi⟩ 1 l.boards = true := by assumption
              rename_i e3
              go_roundw
              case rel =>
                refine ⟨j + 1, by go_num, by omega, ?_, ?_, ?_⟩
                · rw [List.take_succ_eq_append_getElem hlj, List.all_append, hOK.out]
                  simp at e3
                  simp [okPa, e1, e2]
                  omega
                · (repeat (first | assumption | exact Below.refl _ _ | refine Below.alloc ?_ (by first | omega | (simp only [World.size_alloc]; omega) | (simp; done)) _ | refine Below.trans ?_ (Below.mono (by assumption) (by first | omega | (simp only [World.size_alloc]; omega) | (simp; done)))))
                · exact hx.below (B := w.heap.size + 1) (w := wr) (by (repeat (first | assumption | exact Below.refl _ _ | refine Below.alloc ?_ (by first | omega | (simp only [World.size_alloc]; omega) | (simp; done)) _ | refine Below.trans ?_ (Below.mono (by assumption) (by first | omega | (simp only [World.size_alloc]; omega) | (simp; done)))))) (by omega)
              case measure => simp [intOf]; omega
            all_goals
              go_ret
              refine ⟨ret_int ?_, by (repeat (first | assumption | exact Below.refl _ _ | refine Below.alloc ?_ (by first | omega | (simp only [World.size_alloc]; omega) | (simp; done)) _ | refine Below.trans ?_ (Below.mono (by assumption) (by first | omega | (simp only [World.size_alloc]; omega) | (simp; done)))))⟩
              rw [hF.out, if_neg (by rw [hO2.out]; simp), if_pos]
              rw [List.all_eq_false]
              refine ⟨l.patches[j], by simp, ?_⟩
              intro hA
              have hA2 : (okRg l.patches[j].rows 0 (l.rows - 1) = true ∧ okRg l.patches[j].boards 1 l.boards = true) ∧ (0 ≤ l.patches[j].level ∧ l.patches[j].level ≤ (l.hooks.length : Int) - 1) := by simpa [okPa] using hA
              obtain ⟨⟨a1, a2⟩, a3⟩ := hA2
              first
                | exact absurd a1 (by assumption)
                | exact absurd a2 (by assumption)
                | (rename_i hno; simp at hno; omega)
          · go_wp2
            go_ret
            exact ⟨ret_int (by rw [hF.out, if_neg (by rw [hO2.out]; simp), if_neg]; have := hOK.out; rw [List.take_of_length_le (by omega)] at this; simp [this]), hb⟩

theorem IsStart_any (l : La) (s : St) (ha pa : Option Addr) (hc pc : Nat) (w : World) :
    Calls Tryz.prog 7 #[.agg #[I l.boards, I l.rows, .slice ha l.hooks.length hc, .slice pa l.patches.length pc], .agg #[I s.b, I s.d]] w fun e w' => e = .returned (.bool (isStart l s)) ∧ Below w.heap.size w w' := by
  go_enter Tryz.func7, Tryz.ntmps7
  go_wp2_with (go_at_call 40; refine Calls.mono (In_any _ _ _ _) ?_; rintro e w' ⟨rfl, rfl⟩)
  all_goals (go_ret; refine ⟨ret_bool ?_, by (repeat (first | assumption | exact Below.refl _ _ | refine Below.alloc ?_ (by first | omega | (simp only [World.size_alloc]; omega) | (simp; done)) _ | refine Below.trans ?_ (Below.mono (by assumption) (by first | omega | (simp only [World.size_alloc]; omega) | (simp; done)))))⟩; rw [Bool.eq_iff_iff]; simp [isStart] <;> omega)

theorem Next_any (s : St) (t : Int) (w : World) (h1 : -5 ≤ s.d) (h2 : s.d ≤ 5) (h3 : -3 ≤ t) (h4 : t ≤ 3) (h5 : -1000 ≤ s.b) (h6 : s.b ≤ 1000) :
    Calls Tryz.prog 52 #[.agg #[I s.b, I s.d], I t] w fun e w' => e = .returned (.agg #[I (nextS s t).b, I (nextS s t).d]) ∧ Below w.heap.size w w' := by
  obtain ⟨c, hc⟩ : ∃ c, c = clamp (s.d + t) := ⟨_, rfl⟩
  have c1 := clamp_bd (s.d + t)
  have HN : Hid (nextS s t = ⟨s.b + c, c⟩ ∧ c = max (-5) (min 5 (s.d + t))) := ⟨by rw [hc]; rfl, by rw [hc]; rfl⟩
  rw [← hc] at c1
  clear hc
  go_enter Tryz.func52, Tryz.ntmps52
  go_wp2
  all_goals
    rw [HN.out.1]
    have e := HN.out.2
    refine bodyPost_ret (v := .agg #[I (s.b + c), I c]) ?_ rfl ⟨rfl, by (repeat (first | assumption | exact Below.refl _ _ | refine Below.alloc ?_ (by first | omega | (simp only [World.size_alloc]; omega) | (simp; done)) _ | refine Below.trans ?_ (Below.mono (by assumption) (by first | omega | (simp only [World.size_alloc]; omega) | (simp; done)))))⟩
    simp [results, Tryz.results52, go_sem]
    omega

end Go.Proofs.YthpkgabckklojaaGreat

/- The walks of package path: ranges, lanes. -/
namespace Go.Proofs.YthpkgabckklojaaGreat
open Go.RowKit Go.Shelf
attribute [local go_sem] lt_step le_step

theorem within_any (n lo hi : Int) (w : World) :
    Calls Tryz.prog 53 #[I n, I lo, I hi] w fun e w' => e = .returned (.bool (decide (lo ≤ n ∧ n ≤ hi))) ∧ w = w' := by
  go_enter Tryz.func53, Tryz.ntmps53
  go_wp2
  all_goals (go_ret; refine ⟨ret_bool ?_, rfl⟩; rw [Bool.eq_iff_iff]; simp <;> omega)

theorem inside_any (r : Rg) (lo hi : Int) (w : World) :
    Calls Tryz.prog 190 #[.agg #[I r.lo, I r.hi], I lo, I hi] w fun e w' => e = .returned (.bool (okRg r lo hi)) ∧ Below w.heap.size w w' := by
  go_enter Tryz.func190, Tryz.ntmps190
  go_wp2
  all_goals (go_ret; refine ⟨ret_bool ?_, by (repeat (first | assumption | exact Below.refl _ _ | refine Below.alloc ?_ (by first | omega | (simp only [World.size_alloc]; omega) | (simp; done)) _ | refine Below.trans ?_ (Below.mono (by assumption) (by first | omega | (simp only [World.size_alloc]; omega) | (simp; done)))))⟩; rw [Bool.eq_iff_iff]; simp [okRg] <;> omega)

theorem has_any (r : Rg) (n : Int) (w : World) :
    Calls Tryz.prog 46 #[.agg #[I r.lo, I r.hi], I n] w fun e w' => e = .returned (.bool (inR n r)) ∧ Below w.heap.size w w' := by
  go_enter Tryz.func46, Tryz.ntmps46
  go_wp2_with (go_at_call 53; refine Calls.mono (within_any _ _ _ _) ?_; rintro e w' ⟨rfl, rfl⟩)
  all_goals (go_ret; refine ⟨ret_bool ?_, by (repeat (first | assumption | exact Below.refl _ _ | refine Below.alloc ?_ (by first | omega | (simp only [World.size_alloc]; omega) | (simp; done)) _ | refine Below.trans ?_ (Below.mono (by assumption) (by first | omega | (simp only [World.size_alloc]; omega) | (simp; done)))))⟩; simp [inR])

theorem hook_any (r : Rg) (w : World) :
    Calls Tryz.prog 140 #[.agg #[I r.lo, I r.hi]] w fun e w' => e = .returned (.bool (okRg r (-3) 3)) ∧ Below w.heap.size w w' := by
  go_enter Tryz.func140, Tryz.ntmps140
  go_wp2_with (go_at_call 190; refine Calls.mono (inside_any _ _ _ _) ?_; rintro e w1 ⟨rfl, hbw1⟩; obtain ⟨hcw1, hfw1, hzw1⟩ := bcell hbw1; (try simp only [World.size_alloc] at hzw1); clear hcw1 hfw1)
  all_goals (go_ret; exact ⟨rfl, by (repeat (first | assumption | exact Below.refl _ _ | refine Below.alloc ?_ (by first | omega | (simp only [World.size_alloc]; omega) | (simp; done)) _ | refine Below.trans ?_ (Below.mono (by assumption) (by first | omega | (simp only [World.size_alloc]; omega) | (simp; done)))))⟩)

theorem on_any (l : La) (s : St) (ha pa : Option Addr) (hc pc : Nat) (w : World) :
    Calls Tryz.prog 48 #[.agg #[I l.boards, I l.rows, .slice ha l.hooks.length hc, .slice pa l.patches.length pc], .agg #[I s.b, I s.d]] w fun e w' => e = .returned (.bool (onL l s)) ∧ Below w.heap.size w w' := by
  go_enter Tryz.func48, Tryz.ntmps48
  go_wp2_with (go_at_call 53; refine Calls.mono (within_any _ _ _ _) ?_; rintro e w' ⟨rfl, rfl⟩)
  all_goals (go_ret; refine ⟨ret_bool ?_, by (repeat (first | assumption | exact Below.refl _ _ | refine Below.alloc ?_ (by first | omega | (simp only [World.size_alloc]; omega) | (simp; done)) _ | refine Below.trans ?_ (Below.mono (by assumption) (by first | omega | (simp only [World.size_alloc]; omega) | (simp; done)))))⟩; simp [onL])

set_option maxHeartbeats 400000 in
theorem patch_any (l : La) (p : Pa) (ha pa : Option Addr) (hc pc : Nat) (w : World) (h1 : 1 ≤ l.rows) (h2 : l.rows ≤ 12) (h3 : 0 < l.hooks.length) (h4 : l.hooks.length ≤ 4) :
    Calls Tryz.prog 142 #[.agg #[I l.boards, I l.rows, .slice ha l.hooks.length hc, .slice pa l.patches.length pc], .agg #[I p.rows.lo, I p.rows.hi, I p.boards.lo, I p.boards.hi, I p.level]] w fun e w' => e = .returned (.bool (okPa l p)) ∧ Below w.heap.size w w' := by
  go_enter Tryz.func142, Tryz.ntmps142
  go_wp2_with (first | (go_at_call 53; refine Calls.mono (within_any _ _ _ _) ?_; rintro e w' ⟨rfl, rfl⟩) | (go_at_call 190; refine Calls.mono (inside_any ⟨_, _⟩ _ _ _) ?_; rintro e w1 ⟨rfl, hbw1⟩; obtain ⟨hcw1, hfw1, hzw1⟩ := bcell hbw1; (try simp only [World.size_alloc] at hzw1); have := fun o => hcw1 (w.heap.size) o (by first | omega | (simp only [World.size_alloc]; omega) | (simp; done)); have := fun o => hfw1 (w.heap.size) o (by first | omega | (simp only [World.size_alloc]; omega) | (simp; done)); have := fun o => hcw1 (w.heap.size+1) o (by first | omega | (simp only [World.size_alloc]; omega) | (simp; done)); have := fun o => hfw1 (w.heap.size+1) o (by first | omega | (simp only [World.size_alloc]; omega) | (simp; done)); clear hcw1 hfw1))
  all_goals
    go_ret
    refine ⟨ret_bool ?_, by (repeat (first | assumption | exact Below.refl _ _ | refine Below.alloc ?_ (by first | omega | (simp only [World.size_alloc]; omega) | (simp; done)) _ | refine Below.trans ?_ (Below.mono (by assumption) (by first | omega | (simp only [World.size_alloc]; omega) | (simp; done)))))⟩
    rw [Bool.eq_iff_iff]
    simp_all [okPa]

theorem IndexFuncR_any (xs : List Rg) (p : Rg → Bool) (g : FuncId) (fa cb : Array Value) (a : Option Addr) (cap : Nat) (w : World) (H : SlAt w a xs.length cap (xs.flatMap encRg))
    (eg : ∀ args w, (callFunc g args).run Tryz.prog w = .ok (.enter g args) w)
    (hp : ∀ (x : Rg) (W : World), x ∈ xs → Below w.heap.size w W → Calls Tryz.prog g (fa ++ #[.agg #[I x.lo, I x.hi]] ++ cb) W fun e w' => e = .returned (.bool (p x)) ∧ Below W.heap.size W w') :
    Calls Tryz.prog 223 #[.slice a xs.length cap, .func (.func g) fa cb] w fun e w' => e = .returned (I (idxOf p xs)) ∧ Below w.heap.size w w' := by
  have hbd := H.bd
  have H2 := Lib.hid H
  have hp2 := Lib.hid hp
  clear H hp
  go_enter Tryz.func223, Tryz.ntmps223
  go_wp2_with fail
  go_loopw [8] (fun i wr => ∃ k : Nat, i = I k ∧ k ≤ xs.length ∧ (xs.take k).any p = false ∧ Below w.heap.size w wr) (fun i _ => xs.length - (intOf i).toNat)
  case atStart => exact ⟨0, rfl, by omega, rfl, Below.refl _ _⟩
  case round =>
    obtain ⟨k, rfl, hk, hno, hb⟩ := hrel
    have hNO := Lib.hid hno
    clear hno
    by_cases hlt : k < xs.length
    · obtain ⟨b, o, rfl, hbl, hce⟩ := (H2.out.below hb (Nat.le_refl _)).rec 2 encRg_len (by decide) k hlt
      have c0 := hce 0 _ rfl
      have c1 := hce 1 _ rfl
      rw [Nat.add_zero] at c0
      clear hce
      go_wp2_with fail
      refine (hp2.out xs[k] wr (by simp) hb).mono ?_
      rintro e w1 ⟨rfl, hb1⟩
      have hb2 := hb.trans (hb1.mono hb.size)
      cases hpx : p xs[k]
      · have hx := any_take_succ hlt hNO.out hpx
        have HX := Lib.hid hx
        clear hx hpx
        go_wp2
        go_roundw
        case rel => exact ⟨k + 1, by go_num, by omega, HX.out, hb2⟩
        case measure => simp [intOf]; omega
      · have hx := idxOf_hit hlt hNO.out hpx
        have HX := Lib.hid hx
        clear hx hpx
        go_wp2
        go_ret
        exact ⟨ret_int (by rw [HX.out]), hb2⟩
    · have hx : idxOf p xs = -1 := idxOf_none (by have := hNO.out; rwa [List.take_of_length_le (by omega)] at this)
      have HX := Lib.hid hx
      clear hx
      go_wp2
      go_ret
      exact ⟨ret_int (by rw [HX.out]), hb⟩

theorem ContainsFuncR_any (xs : List Rg) (p : Rg → Bool) (g : FuncId) (fa cb : Array Value) (a : Option Addr) (cap : Nat) (w : World) (H : SlAt w a xs.length cap (xs.flatMap encRg))
    (eg : ∀ args w, (callFunc g args).run Tryz.prog w = .ok (.enter g args) w)
    (hp : ∀ (x : Rg) (W : World), x ∈ xs → Below w.heap.size w W → Calls Tryz.prog g (fa ++ #[.agg #[I x.lo, I x.hi]] ++ cb) W fun e w' => e = .returned (.bool (p x)) ∧ Below W.heap.size W w') :
    Calls Tryz.prog 188 #[.slice a xs.length cap, .func (.func g) fa cb] w fun e w' => e = .returned (.bool (xs.any p)) ∧ Below w.heap.size w w' := by
  have hI := IndexFuncR_any xs p g fa cb a cap w H eg hp
  have HI := Lib.hid hI
  have HA := Lib.hid (idxOf_any (p := p) (xs := xs))
  clear hI H hp
  go_enter Tryz.func188, Tryz.ntmps188
  go_wp2_with (go_at_call 223; refine HI.out.mono ?_; rintro e w1 ⟨rfl, hb1⟩)
  all_goals (go_ret; exact ⟨ret_bool (by rw [← HA.out]), hb1⟩)

/-- all: each element is right, 'right' a function that reads. -/
theorem allR_any (xs : List Rg) (p : Rg → Bool) (g : FuncId) (fa cb : Array Value) (a : Option Addr) (cap : Nat) (w : World) (H : SlAt w a xs.length cap (xs.flatMap encRg))
    (eg : ∀ args w, (callFunc g args).run Tryz.prog w = .ok (.enter g args) w)
    (hp : ∀ (x : Rg) (W : World), x ∈ xs → Below w.heap.size w W → Calls Tryz.prog g (fa ++ #[.agg #[I x.lo, I x.hi]] ++ cb) W fun e w' => e = .returned (.bool (p x)) ∧ Below W.heap.size W w') :
    Calls Tryz.prog 139 #[.slice a xs.length cap, .func (.func g) fa cb] w fun e w' => e = .returned (.bool (xs.all p)) ∧ Below w.heap.size w w' := by
  have hC := ContainsFuncR_any xs (fun x => !p x) 189 #[] #[.pointer (some ⟨w.heap.size, 0, none⟩)] a cap (w.alloc (.cells #[.func (.func g) fa cb] 254)) (H.below ((Below.refl _ _).alloc (Nat.le_refl _) _) (Nat.le_refl _)) (enters_of Tryz.func189 (by kernel_rfl) rfl) (by
    intro x W hx hb
    have hc : W.cell? ⟨w.heap.size, 0, none⟩ = some (.func (.func g) fa cb) := by
      rw [hb.cell (p := ⟨w.heap.size, 0, none⟩) (by simp)]; simp
    have hlt : w.heap.size < W.heap.size := by have := hb.size; simp at this; omega
    have hq := fun o => hp x (W.alloc o) hx ((((Below.refl _ _).alloc (Nat.le_refl _) _).trans (hb.mono (by simp))).alloc (by omega) o)
    have HQ := Lib.hid hq
    clear hq hp H hb
    show Calls Tryz.prog 189 #[.agg #[I x.lo, I x.hi], .pointer (some ⟨w.heap.size, 0, none⟩)] W _
    go_enter Tryz.func189, Tryz.ntmps189
    go_wp2_with fail
    refine (HQ.out _).mono ?_
    rintro e w1 ⟨rfl, hb1⟩
    go_wp2
    go_ret
    exact ⟨rfl, by (repeat (first | assumption | exact Below.refl _ _ | refine Below.alloc ?_ (by first | omega | (simp only [World.size_alloc]; omega) | (simp; done)) _ | refine Below.trans ?_ (Below.mono (by assumption) (by first | omega | (simp only [World.size_alloc]; omega) | (simp; done)))))⟩)
  have HC := Lib.hid hC
  clear hC hp H
  go_enter Tryz.func139, Tryz.ntmps139
  go_wp2_with (go_at_call 188; refine HC.out.mono ?_; rintro e w1 ⟨rfl, hb1⟩)
  go_ret
  refine ⟨ret_bool ?_, by (repeat (first | assumption | exact Below.refl _ _ | refine Below.alloc ?_ (by first | omega | (simp only [World.size_alloc]; omega) | (simp; done)) _ | refine Below.trans ?_ (Below.mono (by assumption) (by first | omega | (simp only [World.size_alloc]; omega) | (simp; done)))))⟩
  rw [List.all_eq_not_any_not]

theorem IndexFuncP_any (xs : List Pa) (p : Pa → Bool) (g : FuncId) (fa cb : Array Value) (a : Option Addr) (cap : Nat) (w : World) (H : SlAt w a xs.length cap (xs.flatMap encPa))
    (eg : ∀ args w, (callFunc g args).run Tryz.prog w = .ok (.enter g args) w)
    (hp : ∀ (x : Pa) (W : World), x ∈ xs → Below w.heap.size w W → Calls Tryz.prog g (fa ++ #[.agg #[I x.rows.lo, I x.rows.hi, I x.boards.lo, I x.boards.hi, I x.level]] ++ cb) W fun e w' => e = .returned (.bool (p x)) ∧ Below W.heap.size W w') :
    Calls Tryz.prog 224 #[.slice a xs.length cap, .func (.func g) fa cb] w fun e w' => e = .returned (I (idxOf p xs)) ∧ Below w.heap.size w w' := by
  have hbd := H.bd
  have H2 := Lib.hid H
  have hp2 := Lib.hid hp
  clear H hp
  go_enter Tryz.func224, Tryz.ntmps224
  go_wp2_with fail
  go_loopw [8] (fun i wr => ∃ k : Nat, i = I k ∧ k ≤ xs.length ∧ (xs.take k).any p = false ∧ Below w.heap.size w wr) (fun i _ => xs.length - (intOf i).toNat)
  case atStart => exact ⟨0, rfl, by omega, rfl, Below.refl _ _⟩
  case round =>
    obtain ⟨k, rfl, hk, hno, hb⟩ := hrel
    have hNO := Lib.hid hno
    clear hno
    by_cases hlt : k < xs.length
    · obtain ⟨b, o, rfl, hbl, hce⟩ := (H2.out.below hb (Nat.le_refl _)).rec 5 encPa_len (by decide) k hlt
      have c0 := hce 0 _ rfl
      have c1 := hce 1 _ rfl
      have c2 := hce 2 _ rfl
      have c3 := hce 3 _ rfl
      have c4 := hce 4 _ rfl
      rw [Nat.add_zero] at c0
      clear hce
      go_wp2_with fail
      refine (hp2.out xs[k] wr (by simp) hb).mono ?_
      rintro e w1 ⟨rfl, hb1⟩
      have hb2 := hb.trans (hb1.mono hb.size)
      cases hpx : p xs[k]
      · have hx := any_take_succ hlt hNO.out hpx
        have HX := Lib.hid hx
        clear hx hpx
        go_wp2
        go_roundw
        case rel => exact ⟨k + 1, by go_num, by omega, HX.out, hb2⟩
        case measure => simp [intOf]; omega
      · have hx := idxOf_hit hlt hNO.out hpx
        have HX := Lib.hid hx
        clear hx hpx
        go_wp2
        go_ret
        exact ⟨ret_int (by rw [HX.out]), hb2⟩
    · have hx : idxOf p xs = -1 := idxOf_none (by have := hNO.out; rwa [List.take_of_length_le (by omega)] at this)
      have HX := Lib.hid hx
      clear hx
      go_wp2
      go_ret
      exact ⟨ret_int (by rw [HX.out]), hb⟩

theorem ContainsFuncP_any (xs : List Pa) (p : Pa → Bool) (g : FuncId) (fa cb : Array Value) (a : Option Addr) (cap : Nat) (w : World) (H : SlAt w a xs.length cap (xs.flatMap encPa))
    (eg : ∀ args w, (callFunc g args).run Tryz.prog w = .ok (.enter g args) w)
    (hp : ∀ (x : Pa) (W : World), x ∈ xs → Below w.heap.size w W → Calls Tryz.prog g (fa ++ #[.agg #[I x.rows.lo, I x.rows.hi, I x.boards.lo, I x.boards.hi, I x.level]] ++ cb) W fun e w' => e = .returned (.bool (p x)) ∧ Below W.heap.size W w') :
    Calls Tryz.prog 191 #[.slice a xs.length cap, .func (.func g) fa cb] w fun e w' => e = .returned (.bool (xs.any p)) ∧ Below w.heap.size w w' := by
  have hI := IndexFuncP_any xs p g fa cb a cap w H eg hp
  have HI := Lib.hid hI
  have HA := Lib.hid (idxOf_any (p := p) (xs := xs))
  clear hI H hp
  go_enter Tryz.func191, Tryz.ntmps191
  go_wp2_with (go_at_call 224; refine HI.out.mono ?_; rintro e w1 ⟨rfl, hb1⟩)
  all_goals (go_ret; exact ⟨ret_bool (by rw [← HA.out]), hb1⟩)

/-- all: each element is right, 'right' a function that reads. -/
theorem allP_any (xs : List Pa) (p : Pa → Bool) (g : FuncId) (fa cb : Array Value) (a : Option Addr) (cap : Nat) (w : World) (H : SlAt w a xs.length cap (xs.flatMap encPa))
    (eg : ∀ args w, (callFunc g args).run Tryz.prog w = .ok (.enter g args) w)
    (hp : ∀ (x : Pa) (W : World), x ∈ xs → Below w.heap.size w W → Calls Tryz.prog g (fa ++ #[.agg #[I x.rows.lo, I x.rows.hi, I x.boards.lo, I x.boards.hi, I x.level]] ++ cb) W fun e w' => e = .returned (.bool (p x)) ∧ Below W.heap.size W w') :
    Calls Tryz.prog 141 #[.slice a xs.length cap, .func (.func g) fa cb] w fun e w' => e = .returned (.bool (xs.all p)) ∧ Below w.heap.size w w' := by
  have hC := ContainsFuncP_any xs (fun x => !p x) 192 #[] #[.pointer (some ⟨w.heap.size, 0, none⟩)] a cap (w.alloc (.cells #[.func (.func g) fa cb] 256)) (H.below ((Below.refl _ _).alloc (Nat.le_refl _) _) (Nat.le_refl _)) (enters_of Tryz.func192 (by kernel_rfl) rfl) (by
    intro x W hx hb
    have hc : W.cell? ⟨w.heap.size, 0, none⟩ = some (.func (.func g) fa cb) := by
      rw [hb.cell (p := ⟨w.heap.size, 0, none⟩) (by simp)]; simp
    have hlt : w.heap.size < W.heap.size := by have := hb.size; simp at this; omega
    have hq := fun o => hp x (W.alloc o) hx ((((Below.refl _ _).alloc (Nat.le_refl _) _).trans (hb.mono (by simp))).alloc (by omega) o)
    have HQ := Lib.hid hq
    clear hq hp H hb
    show Calls Tryz.prog 192 #[.agg #[I x.rows.lo, I x.rows.hi, I x.boards.lo, I x.boards.hi, I x.level], .pointer (some ⟨w.heap.size, 0, none⟩)] W _
    go_enter Tryz.func192, Tryz.ntmps192
    go_wp2_with fail
    refine (HQ.out _).mono ?_
    rintro e w1 ⟨rfl, hb1⟩
    go_wp2
    go_ret
    exact ⟨rfl, by (repeat (first | assumption | exact Below.refl _ _ | refine Below.alloc ?_ (by first | omega | (simp only [World.size_alloc]; omega) | (simp; done)) _ | refine Below.trans ?_ (Below.mono (by assumption) (by first | omega | (simp only [World.size_alloc]; omega) | (simp; done)))))⟩)
  have HC := Lib.hid hC
  clear hC hp H
  go_enter Tryz.func141, Tryz.ntmps141
  go_wp2_with (go_at_call 191; refine HC.out.mono ?_; rintro e w1 ⟨rfl, hb1⟩)
  go_ret
  refine ⟨ret_bool ?_, by (repeat (first | assumption | exact Below.refl _ _ | refine Below.alloc ?_ (by first | omega | (simp only [World.size_alloc]; omega) | (simp; done)) _ | refine Below.trans ?_ (Below.mono (by assumption) (by first | omega | (simp only [World.size_alloc]; omega) | (simp; done)))))⟩
  rw [List.all_eq_not_any_not]

end Go.Proofs.YthpkgabckklojaaGreat

/- The walks of package path: CheckLane, least, greatest, next. -/
namespace Go.Proofs.YthpkgabckklojaaGreat
open Go.RowKit Go.Shelf

set_option maxHeartbeats 800000 in
theorem CheckLane_any (l : La) (ha pa : Option Addr) (hc pc : Nat) (w : World) (H : LaneAt w l ha hc pa pc) :
    Calls Tryz.prog 97 #[.agg #[I l.boards, I l.rows, .slice ha l.hooks.length hc, .slice pa l.patches.length pc]] w fun e w' => e = .returned (I (fault l)) ∧ Below w.heap.size w w' := by
  have H2 := Lib.hid H
  clear H
  by_cases g1 : 8 < l.patches.length ∨ 4 < l.hooks.length ∨ ¬ (1 ≤ l.boards ∧ l.boards ≤ 40) ∨ ¬ (1 ≤ l.rows ∧ l.rows ≤ 12) ∨ l.hooks.length = 0
  · by_cases g2 : l.hooks.length = 0
    all_goals
      have e0 : ((l.hooks.length : Int) == 0) = decide (l.hooks.length = 0) := by rw [Bool.eq_iff_iff]; simp
      simp only [g2, decide_true, decide_false] at e0
      go_enter Tryz.func97, Tryz.ntmps97
      go_wp2_with (first | (go_at_call 53; refine Calls.mono (within_any _ _ _ _) ?_; rintro e w' ⟨rfl, rfl⟩) | fail)
      all_goals (first | (exfalso; omega) | (go_ret; refine ⟨ret_int ?_, by (repeat (first | assumption | exact Below.refl _ _ | refine Below.alloc ?_ (by first | omega | (simp only [World.size_alloc]; omega) | (simp; done)) _ | refine Below.trans ?_ (Below.mono (by assumption) (by first | omega | (simp only [World.size_alloc]; omega) | (simp; done)))))⟩; unfold fault; split <;> first | rfl | omega | (split <;> first | rfl | omega)))
  · have e0 : ((l.hooks.length : Int) == 0) = false := by simp; intro e; apply g1; simp [e]
    have p1 : l.patches.length ≤ 8 := by omega
    have p2 : l.hooks.length ≤ 4 := by omega
    have p3 : 1 ≤ l.boards := by omega
    have p4 : l.boards ≤ 40 := by omega
    have p5 : 1 ≤ l.rows := by omega
    have p6 : l.rows ≤ 12 := by omega
    have p7 : 0 < l.hooks.length := by omega
    clear g1
    have hF : Hid (fault l = if l.hooks.all (fun h => okRg h (-3) 3) = false then 1 else if l.patches.all (okPa l) = false then 1 else 0) := by
      show fault l = _
      unfold fault; rw [if_neg (by omega), if_neg (by omega)]
    have hA1 : ∀ W : World, Below w.heap.size w W → Calls Tryz.prog 139 #[.slice ha l.hooks.length hc, .func (.func 140) #[] #[]] W fun e w' => e = .returned (.bool (l.hooks.all fun h => okRg h (-3) 3)) ∧ Below W.heap.size W w' :=
      fun W hb => allR_any l.hooks (fun h => okRg h (-3) 3) 140 #[] #[] ha hc W (H2.out.1.below hb (Nat.le_refl _)) (enters_of Tryz.func140 (by kernel_rfl) rfl) (fun x W _ _ => hook_any x W)
    have HA1 := Lib.hid hA1
    clear hA1
    cases g5 : l.hooks.all (fun h => okRg h (-3) 3)
    · have G5 := Lib.hid g5
      clear g5
      go_enter Tryz.func97, Tryz.ntmps97
      go_wp2_with (first | (go_at_call 53; refine Calls.mono (within_any _ _ _ _) ?_; rintro e w' ⟨rfl, rfl⟩) | fail)
      refine Calls.mono (HA1.out _ (by (repeat (first | assumption | exact Below.refl _ _ | refine Below.alloc ?_ (by first | omega | (simp only [World.size_alloc]; omega) | (simp; done)) _ | refine Below.trans ?_ (Below.mono (by assumption) (by first | omega | (simp only [World.size_alloc]; omega) | (simp; done))))))) ?_
      rw [G5.out]
      rintro e w1 ⟨rfl, hb1⟩
      go_wp2
      go_ret
      exact ⟨ret_int (by rw [hF.out, G5.out]; rfl), by (repeat (first | assumption | exact Below.refl _ _ | refine Below.alloc ?_ (by first | omega | (simp only [World.size_alloc]; omega) | (simp; done)) _ | refine Below.trans ?_ (Below.mono (by assumption) (by first | omega | (simp only [World.size_alloc]; omega) | (simp; done)))))⟩
    · have G5 := Lib.hid g5
      clear g5
      go_enter Tryz.func97, Tryz.ntmps97
      go_wp2_with (first | (go_at_call 53; refine Calls.mono (within_any _ _ _ _) ?_; rintro e w' ⟨rfl, rfl⟩) | fail)
      refine Calls.mono (HA1.out _ (by (repeat (first | assumption | exact Below.refl _ _ | refine Below.alloc ?_ (by first | omega | (simp only [World.size_alloc]; omega) | (simp; done)) _ | refine Below.trans ?_ (Below.mono (by assumption) (by first | omega | (simp only [World.size_alloc]; omega) | (simp; done))))))) ?_
      rw [G5.out]
      rintro e w1 ⟨rfl, hb1⟩
      obtain ⟨hc1, hf1, hz1⟩ := bcell hb1
      simp only [World.size_alloc] at hz1
      have := fun o => hc1 w.heap.size o (by simp)
      clear hc1 hf1
      have hA2 : Calls Tryz.prog 141 #[.slice pa l.patches.length pc, .func (.func 142) #[.agg #[I l.boards, I l.rows, .slice ha l.hooks.length hc, .slice pa l.patches.length pc]] #[]] w1 fun e w' => e = .returned (.bool (l.patches.all (okPa l))) ∧ Below w1.heap.size w1 w' :=
        allP_any l.patches (okPa l) 142 #[.agg #[I l.boards, I l.rows, .slice ha l.hooks.length hc, .slice pa l.patches.length pc]] #[] pa pc w1 (H2.out.2.below (show Below w.heap.size w w1 by (repeat (first | assumption | exact Below.refl _ _ | refine Below.alloc ?_ (by first | omega | (simp only [World.size_alloc]; omega) | (simp; done)) _ | refine Below.trans ?_ (Below.mono (by assumption) (by first | omega | (simp only [World.size_alloc]; omega) | (simp; done)))))) (Nat.le_refl _)) (enters_of Tryz.func142 (by kernel_rfl) rfl) (fun x W _ _ => patch_any l x ha pa hc pc W p5 p6 p7 p2)
      have HA2 := Lib.hid hA2
      clear hA2
      go_wp2_with fail
      refine Calls.mono HA2.out ?_
      cases g6 : l.patches.all (okPa l)
      all_goals
        have G6 := Lib.hid g6
        clear g6
        rintro e w2 ⟨rfl, hb2⟩
        go_wp2
        go_ret
        exact ⟨ret_int (by rw [hF.out, G5.out, G6.out]; rfl), by (repeat (first | assumption | exact Below.refl _ _ | refine Below.alloc ?_ (by first | omega | (simp only [World.size_alloc]; omega) | (simp; done)) _ | refine Below.trans ?_ (Below.mono (by assumption) (by first | omega | (simp only [World.size_alloc]; omega) | (simp; done)))))⟩

theorem Max_two (x y : Int) (b : Nat) (w : World) (h0 : w.cell? ⟨b, 0, none⟩ = some (I x)) (h1 : w.cell? ⟨b, 1, none⟩ = some (I y)) :
    Calls Tryz.prog 111 #[.slice (some ⟨b, 0, none⟩) 2 2] w fun e w' => e = .returned (I (max x y)) ∧ w = w' := by
  go_enter Tryz.func111, Tryz.ntmps111
  go_wp2
  go_loop [3, 4] (fun m i => (m = I x ∧ i = I 1) ∨ (∃ z, m = I z ∧ i = I 2 ∧ Hid (z = max x y))) (fun _ i => 2 - (intOf i).toNat)
  case atStart => exact .inl ⟨rfl, rfl⟩
  case round =>
    rcases hrel with ⟨rfl, rfl⟩ | ⟨z, rfl, rfl, hz⟩
    · go_wp2
      all_goals
        go_round
        case rel => exact .inr ⟨_, rfl, by go_num, by show _ = max x y; omega⟩
        case measure => simp [intOf]
    · go_wp2
      go_ret
      exact ⟨ret_int hz.out, rfl⟩

theorem Min_two (x y : Int) (b : Nat) (w : World) (h0 : w.cell? ⟨b, 0, none⟩ = some (I x)) (h1 : w.cell? ⟨b, 1, none⟩ = some (I y)) :
    Calls Tryz.prog 110 #[.slice (some ⟨b, 0, none⟩) 2 2] w fun e w' => e = .returned (I (min x y)) ∧ w = w' := by
  go_enter Tryz.func110, Tryz.ntmps110
  go_wp2
  go_loop [3, 4] (fun m i => (m = I x ∧ i = I 1) ∨ (∃ z, m = I z ∧ i = I 2 ∧ Hid (z = min x y))) (fun _ i => 2 - (intOf i).toNat)
  case atStart => exact .inl ⟨rfl, rfl⟩
  case round =>
    rcases hrel with ⟨rfl, rfl⟩ | ⟨z, rfl, rfl, hz⟩
    · go_wp2
      all_goals
        go_round
        case rel => exact .inr ⟨_, rfl, by go_num, by show _ = min x y; omega⟩
        case measure => simp [intOf]
    · go_wp2
      go_ret
      exact ⟨ret_int hz.out, rfl⟩

theorem greatest_two (x y : Int) (b : Nat) (w : World) (h0 : w.cell? ⟨b, 0, none⟩ = some (I x)) (h1 : w.cell? ⟨b, 1, none⟩ = some (I y)) :
    Calls Tryz.prog 99 #[.slice (some ⟨b, 0, none⟩) 2 2] w fun e w' => e = .returned (I (max x y)) ∧ w = w' := by
  have H := Lib.hid (Max_two x y b w h0 h1)
  go_enter Tryz.func99, Tryz.ntmps99
  go_wp2_with (go_at_call 111; refine H.out.mono ?_; rintro e w' ⟨rfl, rfl⟩)
  go_ret
  exact ⟨rfl, rfl⟩

theorem least_two (x y : Int) (b : Nat) (w : World) (h0 : w.cell? ⟨b, 0, none⟩ = some (I x)) (h1 : w.cell? ⟨b, 1, none⟩ = some (I y)) :
    Calls Tryz.prog 100 #[.slice (some ⟨b, 0, none⟩) 2 2] w fun e w' => e = .returned (I (min x y)) ∧ w = w' := by
  have H := Lib.hid (Min_two x y b w h0 h1)
  go_enter Tryz.func100, Tryz.ntmps100
  go_wp2_with (go_at_call 110; refine H.out.mono ?_; rintro e w' ⟨rfl, rfl⟩)
  go_ret
  exact ⟨rfl, rfl⟩

theorem next_any (s : St) (t : Int) (w : World) (h1 : -5 ≤ s.d) (h2 : s.d ≤ 5) (h3 : -3 ≤ t) (h4 : t ≤ 3) (h5 : -1000 ≤ s.b) (h6 : s.b ≤ 1000) :
    Calls Tryz.prog 47 #[.agg #[I s.b, I s.d], I t] w fun e w' => e = .returned (.agg #[I (nextS s t).b, I (nextS s t).d]) ∧ Below w.heap.size w w' := by
  obtain ⟨c, hc⟩ : ∃ c, c = clamp (s.d + t) := ⟨_, rfl⟩
  have c1 := clamp_bd (s.d + t)
  have HN : Hid (nextS s t = ⟨s.b + c, c⟩ ∧ c = max (-5) (min 5 (s.d + t))) := ⟨by rw [hc]; rfl, by rw [hc]; rfl⟩
  rw [← hc] at c1
  clear hc
  go_enter Tryz.func47, Tryz.ntmps47
  go_wp2_with fail
  refine Calls.mono (least_two 5 (s.d + t) _ _ (by simp [go_sem]) (by simp [go_sem])) ?_
  rintro e w' ⟨rfl, rfl⟩
  go_wp2_with fail
  refine Calls.mono (greatest_two (-5) (min 5 (s.d + t)) _ _ (by simp [go_sem]) (by simp [go_sem])) ?_
  rintro e w' ⟨rfl, rfl⟩
  rw [show max (-5) (min 5 (s.d + t)) = c from HN.out.2.symm]
  go_wp2
  rw [HN.out.1]
  refine bodyPost_ret (v := .agg #[I (s.b + c), I c]) ?_ rfl ⟨rfl, by (repeat (first | assumption | exact Below.refl _ _ | refine Below.alloc ?_ (by first | omega | (simp only [World.size_alloc]; omega) | (simp; done)) _ | refine Below.trans ?_ (Below.mono (by assumption) (by first | omega | (simp only [World.size_alloc]; omega) | (simp; done)))))⟩
  simp [results, Tryz.results47, go_sem]
end Go.Proofs.YthpkgabckklojaaGreat

/- The walks of package path: ball, hooks, started. -/
namespace Go.Proofs.YthpkgabckklojaaGreat
open Go.RowKit Go.Shelf

theorem infoLv : (Tryz.prog.info? 205).map (fun i => (i.zero, i.size, i.bytes)) = some (some (.agg (Array.replicate 41 (I 0))), 41, 328) := by kernel_rfl

theorem madeLv (R : Nat) : madeCells (Value.agg (Array.replicate 41 (I 0))).cells (R * 41) = (List.replicate (R * 41) (I 0)).toArray := by
  apply Array.ext
  · simp [madeCells]
  · intro i h1 h2
    simp [madeCells, Value.cells, Nat.mod_lt]

/-- What holds while a ball's levels are laid. -/
def InBall (B : Int) (R : Nat) (hooks : List Rg) (patches : List Pa) (ha : Option Addr) (hc : Nat) (pa : Option Addr) (pc : Nat) (w : World) (g v : Nat) (f : Int → Int → Int) (wr : World) : Prop :=
  Box wr v [I B, I R, .slice ha hooks.length hc, .slice pa patches.length pc, .slice (some ⟨g, 0, none⟩) R R] ∧ Box wr w.heap.size [I B, I R, .slice ha hooks.length hc, .slice pa patches.length pc] ∧
  (∃ cs, Box wr g cs ∧ GridOf cs R f) ∧ Below w.heap.size w wr ∧ (∃ r0 r1 r2 r3 r4, Box wr (w.heap.size + 1) [r0, r1, r2, r3, r4])
theorem InBall.later {B : Int} {R : Nat} {hooks : List Rg} {patches : List Pa} {ha pa : Option Addr} {hc pc : Nat} {w wr wr' : World} {g v : Nat} {f : Int → Int → Int} (h : InBall B R hooks patches ha hc pa pc w g v f wr) (hb : Below wr.heap.size wr wr') : InBall B R hooks patches ha hc pa pc w g v f wr' := by
  obtain ⟨h1, h2, ⟨cs, h3, h4⟩, h5, r0, r1, r2, r3, r4, h6⟩ := h
  exact ⟨h1.later hb, h2.later hb, ⟨cs, h3.later hb, h4⟩, h5.trans (hb.mono h5.size), r0, r1, r2, r3, r4, h6.later hb⟩
theorem InBall.congr {B : Int} {R : Nat} {hooks : List Rg} {patches : List Pa} {ha pa : Option Addr} {hc pc : Nat} {w wr : World} {g v : Nat} {f f' : Int → Int → Int} (h : InBall B R hooks patches ha hc pa pc w g v f wr) (e : ∀ row board, f row board = f' row board) : InBall B R hooks patches ha hc pa pc w g v f' wr := by
  obtain ⟨h1, h2, ⟨cs, h3, h4⟩, h5, h6⟩ := h
  exact ⟨h1, h2, ⟨cs, h3, h4.congr e⟩, h5, h6⟩

set_option maxRecDepth 100000 in
set_option maxHeartbeats 1000000 in
theorem ball_any (B : Int) (R : Nat) (hooks : List Rg) (patches : List Pa) (ha pa : Option Addr) (hc pc : Nat) (w : World) (H : LaneAt w ⟨B, R, hooks, patches⟩ ha hc pa pc) (V : Valid ⟨B, R, hooks, patches⟩) :
    Calls Tryz.prog 98 #[.agg #[I B, I R, .slice ha hooks.length hc, .slice pa patches.length pc]] w fun e w' => ∃ (g : Nat) (cs : List Value), e = .returned (.agg #[I B, I R, .slice ha hooks.length hc, .slice pa patches.length pc, .slice (some ⟨g, 0, none⟩) R R]) ∧ w.heap.size ≤ g ∧ Box w' g cs ∧ GridOf cs R (levelOf patches) ∧ Below w.heap.size w w' := by
  have H2 := Lib.hid H
  have V2 := Lib.hid V
  have p5 : 1 ≤ R := by have := V.r1; simp at this; omega
  have p6 : R ≤ 12 := by have := V.r2; simp at this; omega
  have p7 : patches.length ≤ 8 := V.np
  clear H V
  obtain ⟨i, hi, hz0, hz1, hz2⟩ := info_parts infoLv
  have hmk := fun w => run_make_rowN (P := Tryz.prog) 113 205 i _ Tryz.underlying113 hi hz0 .i64 .i64 R R (Nat.le_refl _) (by rw [hz2]; omega) (by omega) w
  rw [hz1, madeLv] at hmk
  go_enter Tryz.func98, Tryz.ntmps98
  go_upto_region 1 with fail
  go_cut [3] (fun s3 wx => ∃ g v : Nat, s3 = .pointer (some ⟨v, 0, none⟩) ∧ InBall B R hooks patches ha hc pa pc w g v (levelOf []) wx ∧ w.heap.size < g ∧ w.heap.size < v ∧ v ≠ g ∧ w.heap.size + 1 ≠ g ∧ w.heap.size + 1 ≠ v)
  case first =>
    go_region
    all_goals
      go_wp2_with fail
      go_meet
    · refine ⟨w.heap.size + 1 + 1, w.heap.size + 1 + 1 + 1, rfl, ⟨?_, ?_, ⟨_, ?_, GridOf.zero R⟩, ?_, I 0, I 0, .slice none 0 0, .slice none 0 0, .slice none 0 0, ?_⟩, by omega, by omega, by omega, by omega, by omega⟩
      · exact (Box.new' _ _ (by simp)).drew
      · exact ((((Box.new' _ _ rfl).alloc _).alloc _).alloc _).drew
      · exact ((Box.new' _ _ (by simp)).alloc _).drew
      · exact (((((Below.refl _ _).alloc (Nat.le_refl _) _).alloc (by simp) _).alloc (by simp; omega) _).alloc (by simp; omega) _).drew
      · exact (((Box.new' _ _ (by simp)).alloc _).alloc _).drew
    · refine ⟨w.heap.size + 1 + 1 + 1, w.heap.size + 1 + 1, rfl, ⟨?_, ?_, ⟨_, ?_, GridOf.zero R⟩, ?_, I 0, I 0, .slice none 0 0, .slice none 0 0, .slice none 0 0, ?_⟩, by omega, by omega, by omega, by omega, by omega⟩
      · exact ((Box.new' _ _ (by simp)).alloc _).drew
      · exact ((((Box.new' _ _ rfl).alloc _).alloc _).alloc _).drew
      · exact (Box.new' _ _ (by simp)).drew
      · exact (((((Below.refl _ _).alloc (Nat.le_refl _) _).alloc (by simp) _).alloc (by simp; omega) _).alloc (by simp; omega) _).drew
      · exact (((Box.new' _ _ (by simp)).alloc _).alloc _).drew
  case rest =>
    obtain ⟨g, v, rfl, hin, n1, n2, n3, n4, n5⟩ := hcut
    have x3 := hin.2.1.cell 3 rfl
    clear hmk hz0 hz1 hz2 hi
    go_wp2_with fail
    go_loopw [16] (fun s16 wr => ∃ k : Nat, s16 = I k ∧ k ≤ patches.length ∧ InBall B R hooks patches ha hc pa pc w g v (levelOf (patches.take k)) wr) (fun i _ => patches.length - (intOf i).toNat)
    case atStart => exact ⟨0, rfl, by omega, hin⟩
    case round =>
      clear hin x3
      obtain ⟨k, rfl, hk, hin⟩ := hrel
      by_cases hlt : k < patches.length
      · obtain ⟨b, o, rfl, hbl, hce⟩ := (H2.out.2.below hin.2.2.2.1 (Nat.le_refl _)).rec 5 encPa_len (by decide) k hlt
        have c0 := hce 0 _ rfl
        have c1 := hce 1 _ rfl
        have c2 := hce 2 _ rfl
        have c3 := hce 3 _ rfl
        have c4 := hce 4 _ rfl
        rw [Nat.add_zero] at c0
        clear hce
        obtain ⟨wo, rfl⟩ : ∃ wo : World, wo = wr := ⟨_, rfl⟩
        obtain ⟨p, hp⟩ : ∃ p, patches[k] = p := ⟨_, rfl⟩
        have vp := V2.out.pk p (by rw [← hp]; simp)
        simp only [hp] at c0 c1 c2 c3 c4
        have HP := Lib.hid hp
        clear hp
        obtain ⟨⟨q1, q2, q3⟩, ⟨q4, q5, q6⟩, q7, q8⟩ := vp
        have q9 : B ≤ 40 := V2.out.b2
        simp only at q3 q6
        have hg1 := hin.1.lt
        have hg2 : g < wo.heap.size := by obtain ⟨_, _, ⟨_, h, _⟩, _⟩ := hin; exact h.lt
        go_wp2_with fail
        go_loopw [6, 7] (fun s6 s7 wq => ∃ r : Nat, s6 = I r ∧ p.rows.lo ≤ r ∧ r ≤ p.rows.hi + 1 ∧ InBall B R hooks patches ha hc (some ⟨b, o, none⟩) pc w g v (painted (patches.take k) p r p.boards.lo) wq ∧ Box wq wo.heap.size [I p.rows.lo, I p.rows.hi, I p.boards.lo, I p.boards.hi, I p.level]) (fun s6 _ _ => (p.rows.hi + 1 - intOf s6).toNat)
        case atStart =>
          refine ⟨p.rows.lo.toNat, by go_num, by omega, by omega, ?_, Box.new _ _ _⟩
          refine (hin.later ((Below.refl _ _).alloc (Nat.le_refl _) _)).congr fun row board => ?_
          rw [show ((p.rows.lo.toNat : Nat) : Int) = p.rows.lo by omega, painted_start]
        case round =>
          obtain ⟨r, rfl, hr1, hr2, hin2, hpb⟩ := hrel
          have b0 := hpb.cell 0 rfl
          have b1 := hpb.cell 1 rfl
          have b2 := hpb.cell 2 rfl
          have b3 := hpb.cell 3 rfl
          by_cases hlr : (r : Int) ≤ p.rows.hi
          · go_wp2_with fail
            go_loopw [7] (fun s7 ws => ∃ c : Nat, s7 = I c ∧ p.boards.lo ≤ c ∧ c ≤ p.boards.hi + 1 ∧ InBall B R hooks patches ha hc (some ⟨b, o, none⟩) pc w g v (painted (patches.take k) p r c) ws ∧ Box ws wo.heap.size [I p.rows.lo, I p.rows.hi, I p.boards.lo, I p.boards.hi, I p.level]) (fun s7 _ => (p.boards.hi + 1 - intOf s7).toNat)
            case atStart =>
              refine ⟨p.boards.lo.toNat, by go_num, by omega, by omega, ?_, hpb⟩
              rw [show ((p.boards.lo.toNat : Nat) : Int) = p.boards.lo by omega]
              exact hin2
            case round =>
              clear b0 b1 b2 b3
              obtain ⟨c, rfl, hc1, hc2, hin3, hpb3⟩ := hrel
              have b2 := hpb3.cell 2 rfl
              have b3 := hpb3.cell 3 rfl
              have b4 := hpb3.cell 4 rfl
              by_cases hlc : (c : Int) ≤ p.boards.hi
              · have hin3' := hin3
                obtain ⟨i1, i2, ⟨cs, i3, i4⟩, i5, i6⟩ := hin3'
                have v4 := i1.cell 4 rfl
                have gc := i3.cell (r * 41 + c) (i4.2 r c (by omega) (by omega))
                have gf := i3.free (r * 41 + c)
                clear i1 i2 i4 i5 i6
                have hst := fun (W : World) => painted_step (patches.take k) p r c (by simp [inR]; omega) (by simp [inR]; omega)
                have HST := Lib.hid hst
                clear hst
                go_wp2_with fail
                go_region
                go_wp2_with fail
                go_roundw
                case rel =>
                  refine ⟨c + 1, by go_num, by omega, by omega, ?_, (hpb3.other (by show g ≠ _; omega) _).drew⟩
                  obtain ⟨i1, i2, ⟨cs, i3, i4⟩, i5, r0', r1', r2', r3', r4', i6⟩ := hin3
                  refine ⟨(i1.other (by show g ≠ v; omega) _).drew, (i2.other (by show g ≠ _; omega) _).drew, ⟨_, (i3.set _ _).drew, ?_⟩, (i5.setCell (by show _ ≤ g; omega) _).drew, _, _, _, _, _, (i6.other (by show g ≠ _; omega) _).drew⟩
                  refine (i4.set r c (by omega) (by omega) p.level).congr fun row board => ?_
                  have := HST.out w row board
                  simpa using this.symm
                case measure => simp [intOf]; omega
              · go_wp2_with fail
                go_roundw
                case rel =>
                  refine ⟨r + 1, by go_num, by omega, by omega, ?_, hpb3⟩
                  exact hin3.congr fun row board => painted_row _ _ _ _ (by omega) row board
                case measure => simp [intOf]; omega
          · go_wp2_with fail
            go_roundw
            case rel =>
              refine ⟨k + 1, by go_num, by omega, ?_⟩
              refine hin2.congr fun row board => ?_
              rw [painted_end _ _ _ _ (by omega), List.take_succ_eq_append_getElem hlt, HP.out]
            case measure => simp [intOf]; omega
      · obtain ⟨i1, i2, ⟨cs, i3, i4⟩, i5, r0', r1', r2', r3', r4', i6⟩ := hin
        have v0 := i1.cell 0 rfl
        have v1 := i1.cell 1 rfl
        have v2 := i1.cell 2 rfl
        have v3 := i1.cell 3 rfl
        have v4 := i1.cell 4 rfl
        have y0 := i6.cell 0 rfl
        have y1 := i6.cell 1 rfl
        have y2 := i6.cell 2 rfl
        have y3 := i6.cell 3 rfl
        have y4 := i6.cell 4 rfl
        have f0 := i6.free 0
        have f1 := i6.free 1
        have f2 := i6.free 2
        have f3 := i6.free 3
        have f4 := i6.free 4
        rw [List.take_of_length_le (by omega)] at i4
        go_wp2_with fail
        refine bodyPost_ret (v := .agg #[I B, I R, .slice ha hooks.length hc, .slice pa patches.length pc, .slice (some ⟨g, 0, none⟩) R R]) ?_ rfl ⟨g, cs, rfl, by omega, ?_, i4, ?_⟩
        · simp [results, Tryz.results98, go_sem, y0, y1, y2, y3, y4]
        · exact ((((i3.other (by simp; omega) _).other (by simp; omega) _).other (by simp; omega) _).other (by simp; omega) _).other (by simp; omega) _
        · exact ((((i5.setCell (by simp) _).setCell (by simp) _).setCell (by simp) _).setCell (by simp) _).setCell (by simp) _
end Go.Proofs.YthpkgabckklojaaGreat

/- The walks of package path: hooks, follow, started. -/
namespace Go.Proofs.YthpkgabckklojaaGreat
open Go.RowKit Go.Shelf

/-- How a ball lies: its lane's lists, its levels. -/
structure BallAt (w : World) (l : La) (ha : Option Addr) (hc : Nat) (pa : Option Addr) (pc : Nat) (g : Nat) : Prop where
  lane : LaneAt w l ha hc pa pc
  valid : Valid l
  grid : ∃ cs, Box w g cs ∧ GridOf cs l.rows.toNat (levelOf l.patches)
theorem BallAt.later {w w' : World} {l : La} {ha : Option Addr} {hc : Nat} {pa : Option Addr} {pc g : Nat} (h : BallAt w l ha hc pa pc g) (hb : Below w.heap.size w w') : BallAt w' l ha hc pa pc g := by
  obtain ⟨h1, h2, cs, h3, h4⟩ := h
  exact ⟨h1.below hb (Nat.le_refl _), h2, cs, h3.later hb, h4⟩
theorem Valid.rows_eq {l : La} (h : Valid l) : ((l.rows.toNat : Nat) : Int) = l.rows := by have := h.r1; omega

theorem balls_any (l : La) (ha pa : Option Addr) (hc pc : Nat) (w : World) (H : LaneAt w l ha hc pa pc) (V : Valid l) :
    Calls Tryz.prog 98 #[.agg #[I l.boards, I l.rows, .slice ha l.hooks.length hc, .slice pa l.patches.length pc]] w fun e w' => ∃ g : Nat, e = .returned (.agg #[I l.boards, I l.rows, .slice ha l.hooks.length hc, .slice pa l.patches.length pc, .slice (some ⟨g, 0, none⟩) l.rows.toNat l.rows.toNat]) ∧ w.heap.size ≤ g ∧ BallAt w' l ha hc pa pc g ∧ Below w.heap.size w w' := by
  obtain ⟨B, R0, hooks, patches⟩ := l
  obtain ⟨R, rfl⟩ : ∃ R : Nat, R0 = R := ⟨R0.toNat, by have := V.r1; simp at this; omega⟩
  refine (ball_any B R hooks patches ha pa hc pc w H V).mono ?_
  rintro e w' ⟨g, cs, rfl, hg, hx, hgr, hb⟩
  exact ⟨g, by simp, hg, ⟨H.below hb (Nat.le_refl _), V, cs, hx, by simpa using hgr⟩, hb⟩

set_option maxRecDepth 100000 in
theorem hooks_any (l : La) (row : Int) (s : St) (ha pa : Option Addr) (hc pc g : Nat) (w : World) (H : BallAt w l ha hc pa pc g) (h1 : 0 ≤ row) (h2 : row < l.rows) (h3 : onL l s = true) :
    Calls Tryz.prog 45 #[.agg #[I l.boards, I l.rows, .slice ha l.hooks.length hc, .slice pa l.patches.length pc, .slice (some ⟨g, 0, none⟩) l.rows.toNat l.rows.toNat], I row, .agg #[I s.b, I s.d]] w fun e w' => e = .returned (.agg #[I (hookOf l row s.b).lo, I (hookOf l row s.b).hi]) ∧ Below w.heap.size w w' := by
  obtain ⟨hl, hv, cs, hx, hg⟩ := H
  have q1 := hv.b2
  have q2 := hv.r2
  have q4 := hv.nh
  have q3 : 1 ≤ s.b ∧ s.b ≤ l.boards := by simpa [onL] using h3
  obtain ⟨r, rfl⟩ : ∃ r : Nat, row = r := ⟨row.toNat, by omega⟩
  obtain ⟨sb, sd⟩ := s
  simp only at q3
  obtain ⟨c, rfl⟩ : ∃ c : Nat, sb = c := ⟨sb.toNat, by omega⟩
  obtain ⟨lv, hlv⟩ : ∃ lv, levelOf l.patches r c = lv := ⟨_, rfl⟩
  have q5 := levelOf_bd hv r c
  rw [hlv] at q5
  obtain ⟨lv, rfl⟩ : ∃ n : Nat, lv = n := ⟨lv.toNat, by omega⟩
  have hlt : lv < l.hooks.length := by omega
  have cg : w.cell? ⟨g, r * 41 + c, none⟩ = some (I lv) := by rw [← hlv]; exact hx.cell _ (hg.2 r c (by omega) (by omega))
  have hgl := hx.lt
  obtain ⟨b, o, rfl, hbl, hce⟩ := hl.1.rec 2 encRg_len (by decide) lv hlt
  have c0 := hce 0 _ rfl
  have c1 := hce 1 _ rfl
  rw [Nat.add_zero] at c0
  have hh : hookOf l r c = l.hooks[lv] := by
    unfold hookOf
    rw [hlv, List.getD_eq_getElem?_getD, Int.toNat_natCast, List.getElem?_eq_getElem hlt]; rfl
  have HH := Lib.hid hh
  have hrt : r < l.rows.toNat := by omega
  (have o1g : g < w.heap.size + 1 := by omega); (have o2g : g < w.heap.size + 1 + 1 := by omega); (have o3g : g < w.heap.size + 1 + 1 + 1 := by omega)
  (have o1b : b < w.heap.size + 1 := by omega); (have o2b : b < w.heap.size + 1 + 1 := by omega); (have o3b : b < w.heap.size + 1 + 1 + 1 := by omega)
  clear hce hx hg hlv hl hh h3
  go_enter Tryz.func45, Tryz.ntmps45
  go_wp2_with fail
  go_region
  all_goals
    go_wp2_with fail
    rw [HH.out]
    refine bodyPost_ret (v := .agg #[I l.hooks[lv].lo, I l.hooks[lv].hi]) ?_ rfl ⟨rfl, ?_⟩
    · simp [results, Tryz.results45, go_sem]
    · refine Below.drew ?_
      (repeat (first | assumption | exact Below.refl _ _ | refine Below.alloc ?_ (by first | omega | (simp only [World.size_alloc]; omega) | (simp; done)) _ | refine Below.trans ?_ (Below.mono (by assumption) (by first | omega | (simp only [World.size_alloc]; omega) | (simp; done)))))

/-- follow: the iterator, over two boxes of its own: the hooks, and the state. -/
theorem follow_any (l : La) (row : Int) (s : St) (ha pa : Option Addr) (hc pc g : Nat) (w : World) (H : BallAt w l ha hc pa pc g) (h1 : 0 ≤ row) (h2 : row < l.rows) (h3 : onL l s = true) :
    Calls Tryz.prog 101 #[.agg #[I l.boards, I l.rows, .slice ha l.hooks.length hc, .slice pa l.patches.length pc, .slice (some ⟨g, 0, none⟩) l.rows.toNat l.rows.toNat], I row, .agg #[I s.b, I s.d]] w fun e w' => ∃ hb sb : Nat, e = .returned (.func (.func 143) #[] #[.pointer (some ⟨hb, 0, none⟩), .pointer (some ⟨sb, 0, none⟩)]) ∧
      w.heap.size ≤ hb ∧ w.heap.size ≤ sb ∧ Box w' hb [I (hookOf l row s.b).lo, I (hookOf l row s.b).hi] ∧ Box w' sb [I s.b, I s.d] ∧ Below w.heap.size w w' := by
  obtain ⟨hk, hhk⟩ : ∃ hk, hookOf l row s.b = hk := ⟨_, rfl⟩
  have hC : ∀ o1 o2, Calls Tryz.prog 45 #[.agg #[I l.boards, I l.rows, .slice ha l.hooks.length hc, .slice pa l.patches.length pc, .slice (some ⟨g, 0, none⟩) l.rows.toNat l.rows.toNat], I row, .agg #[I s.b, I s.d]] ((w.alloc o1).alloc o2) fun e w' => e = .returned (.agg #[I hk.lo, I hk.hi]) ∧ Below ((w.alloc o1).alloc o2).heap.size ((w.alloc o1).alloc o2) w' := by
    intro o1 o2
    rw [← hhk]
    exact hooks_any l row s ha pa hc pc g _ (H.later (((Below.refl _ _).alloc (Nat.le_refl _) _).alloc (by simp) _)) h1 h2 h3
  have HC := Lib.hid hC
  rw [hhk]
  clear hC hhk H
  go_enter Tryz.func101, Tryz.ntmps101
  go_wp2_with fail
  refine (HC.out _ _).mono ?_
  rintro e w1 ⟨rfl, hb1⟩
  have hz := hb1.size
  simp only [World.size_alloc] at hz
  go_wp2_with fail
  go_ret
  refine ⟨w1.heap.size, w.heap.size + 1, rfl, by omega, by omega, Box.new _ _ _, ?_, ?_⟩
  · exact (Box.later (Box.new' _ _ (by simp)) hb1).alloc _
  · (repeat (first | assumption | exact Below.refl _ _ | refine Below.alloc ?_ (by first | omega | (simp only [World.size_alloc]; omega) | (simp; done)) _ | refine Below.trans ?_ (Below.mono (by assumption) (by first | omega | (simp only [World.size_alloc]; omega) | (simp; done)))))

def zeroBall : Value := .agg #[I 0, I 0, .slice none 0 0, .slice none 0 0, .slice none 0 0]

theorem started_err (l : La) (s : St) (ha pa : Option Addr) (hc pc : Nat) (w : World) (H : LaneAt w l ha hc pa pc) (he : startErr l s ≠ 0) :
    Calls Tryz.prog 44 #[.agg #[I l.boards, I l.rows, .slice ha l.hooks.length hc, .slice pa l.patches.length pc], .agg #[I s.b, I s.d]] w fun e w' => e = .returned (.tuple #[.agg #[I 0, I 0, .slice none 0 0, .slice none 0 0, .slice none 0 0], I (startErr l s)]) ∧ Below w.heap.size w w' := by
  have hC := fun o1 o2 o3 => CheckLane_any l ha pa hc pc (((w.alloc o1).alloc o2).alloc o3) (H.below ((((Below.refl _ _).alloc (Nat.le_refl _) _).alloc (by simp) _).alloc (by simp; omega) _) (Nat.le_refl _))
  have HC := Lib.hid hC
  have HE := Lib.hid he
  clear hC H he
  by_cases hf : fault l = 0
  · have h2 : isStart l s = false := by
      cases h : isStart l s
      · rfl
      · exact absurd (by simp [startErr, hf, h]) HE.out
    have he2 : startErr l s = 2 := by simp [startErr, hf, h2]
    rw [he2]
    have H2 := Lib.hid h2
    have HF := Lib.hid hf
    clear hf h2 he2
    go_enter Tryz.func44, Tryz.ntmps44
    go_wp2_with fail
    refine Calls.mono (HC.out _ _ _) ?_
    rw [HF.out]
    rintro e w1 ⟨rfl, hb1⟩
    obtain ⟨hc1, hf1, hz1⟩ := bcell hb1
    simp only [World.size_alloc] at hz1
    have y0 := fun o => hc1 w.heap.size o (by simp; omega)
    have y1 := fun o => hc1 (w.heap.size + 1) o (by simp)
    have y2 := fun o => hc1 (w.heap.size + 1 + 1) o (by simp)
    have z2 := fun o => hf1 (w.heap.size + 1 + 1) o (by simp)
    have X2 := Lib.hid (Box.later (Box.new' (b := w.heap.size + 1 + 1) [I 0, I 0, .slice none 0 0, .slice none 0 0, .slice none 0 0] 115 (by simp)) hb1)
    have hB1 := Lib.hid (show Below w.heap.size w w1 by (repeat (first | assumption | exact Below.refl _ _ | refine Below.alloc ?_ (by first | omega | (simp only [World.size_alloc]; omega) | (simp; done)) _ | refine Below.trans ?_ (Below.mono (by assumption) (by first | omega | (simp only [World.size_alloc]; omega) | (simp; done))))))
    clear hc1 hf1
    go_wp2_with (first | (go_at_call 53; refine Calls.mono (within_any _ _ _ _) ?_; rintro e w' ⟨rfl, rfl⟩) | (go_at_call 48; refine Calls.mono (on_any _ _ _ _ _ _ _) ?_; rintro e w2 ⟨rfl, hbw2⟩; obtain ⟨hcw2, hfw2, hzw2⟩ := bcell hbw2; (try simp only [World.size_alloc] at hzw2); have := fun o => hcw2 (w.heap.size) o (by first | omega | (simp only [World.size_alloc]; omega) | (simp; done)); have := fun o => hfw2 (w.heap.size) o (by first | omega | (simp only [World.size_alloc]; omega) | (simp; done)); have := fun o => hcw2 (w.heap.size+1) o (by first | omega | (simp only [World.size_alloc]; omega) | (simp; done)); have := fun o => hfw2 (w.heap.size+1) o (by first | omega | (simp only [World.size_alloc]; omega) | (simp; done)); have := fun o => hcw2 (w.heap.size+1+1) o (by first | omega | (simp only [World.size_alloc]; omega) | (simp; done)); have := fun o => hfw2 (w.heap.size+1+1) o (by first | omega | (simp only [World.size_alloc]; omega) | (simp; done)); clear hcw2 hfw2))
    all_goals first
      | (exfalso
         have g1 : onL l s = true := by assumption
         have g2 : (!decide (-5 ≤ s.d)) = false ∧ (!decide (s.d ≤ 5)) = false := by assumption
         have g3 : isStart l s = true := by
           simp at g2; simp [onL] at g1; simp [isStart]; omega
         rw [H2.out] at g3
         cases g3)
      | (refine bodyPost_ret (res_cell_tmp rfl _ rfl ((X2.out.later hbw2).set 0 (I 0) |>.set 1 (I 0) |>.set 2 (.slice none 0 0) |>.set 3 (.slice none 0 0) |>.set 4 (.slice none 0 0)) Tryz.underlying115 rfl (by kernel_rfl)) rfl ⟨rfl, ?_⟩
         refine (hB1.out.trans (hbw2.mono hB1.out.size)).trans ?_
         repeat refine below_set ?_ (by omega)
         exact Below.refl _ _)
  · have he2 : startErr l s = fault l := by simp [startErr, hf]
    have hfb : (fault l != 0) = true := by simp [hf]
    rw [he2]
    have HF := Lib.hid hf
    clear hf he2
    go_enter Tryz.func44, Tryz.ntmps44
    go_wp2_with fail
    refine Calls.mono (HC.out _ _ _) ?_
    rintro e w1 ⟨rfl, hb1⟩
    obtain ⟨hc1, hf1, hz1⟩ := bcell hb1
    simp only [World.size_alloc] at hz1
    have y0 := fun o => hc1 w.heap.size o (by simp; omega)
    have y1 := fun o => hc1 (w.heap.size + 1) o (by simp)
    have y2 := fun o => hc1 (w.heap.size + 1 + 1) o (by simp)
    have z2 := fun o => hf1 (w.heap.size + 1 + 1) o (by simp)
    have X2 := Lib.hid (Box.later (Box.new' (b := w.heap.size + 1 + 1) [I 0, I 0, .slice none 0 0, .slice none 0 0, .slice none 0 0] 115 (by simp)) hb1)
    clear hc1 hf1
    go_wp2_with fail
    refine bodyPost_ret (res_cell_tmp rfl _ rfl (X2.out.set 0 (I 0) |>.set 1 (I 0) |>.set 2 (.slice none 0 0) |>.set 3 (.slice none 0 0) |>.set 4 (.slice none 0 0)) Tryz.underlying115 rfl (by kernel_rfl)) rfl ⟨rfl, ?_⟩
    refine (show Below w.heap.size w w1 by (repeat (first | assumption | exact Below.refl _ _ | refine Below.alloc ?_ (by first | omega | (simp only [World.size_alloc]; omega) | (simp; done)) _ | refine Below.trans ?_ (Below.mono (by assumption) (by first | omega | (simp only [World.size_alloc]; omega) | (simp; done)))))).trans ?_
    repeat refine below_set ?_ (by omega)
    exact Below.refl _ _

theorem started_ok (l : La) (s : St) (ha pa : Option Addr) (hc pc : Nat) (w : World) (H : LaneAt w l ha hc pa pc) (he : startErr l s = 0) :
    Calls Tryz.prog 44 #[.agg #[I l.boards, I l.rows, .slice ha l.hooks.length hc, .slice pa l.patches.length pc], .agg #[I s.b, I s.d]] w fun e w' => ∃ g : Nat, e = .returned (.tuple #[.agg #[I l.boards, I l.rows, .slice ha l.hooks.length hc, .slice pa l.patches.length pc, .slice (some ⟨g, 0, none⟩) l.rows.toNat l.rows.toNat], I 0]) ∧ w.heap.size ≤ g ∧ BallAt w' l ha hc pa pc g ∧ Below w.heap.size w w' := by
  have hf : fault l = 0 := by
    unfold startErr at he; split at he
    · omega
    · simp_all
  have hs : isStart l s = true := by
    cases h : isStart l s
    · simp [startErr, hf, h] at he
    · rfl
  have hV := fault_valid hf
  have hC := fun o1 o2 o3 => CheckLane_any l ha pa hc pc (((w.alloc o1).alloc o2).alloc o3) (H.below ((((Below.refl _ _).alloc (Nat.le_refl _) _).alloc (by simp) _).alloc (by simp; omega) _) (Nat.le_refl _))
  have HC := Lib.hid hC
  have HV := Lib.hid hV
  have HH := Lib.hid H
  have hon : onL l s = true := by simp [onL]; simp [isStart] at hs; omega
  have d1 : -5 ≤ s.d := by simp [isStart] at hs; omega
  have d2 : s.d ≤ 5 := by simp [isStart] at hs; omega
  have HF := Lib.hid hf
  clear hC H he hs hV hf
  go_enter Tryz.func44, Tryz.ntmps44
  go_wp2_with fail
  refine Calls.mono (HC.out _ _ _) ?_
  rw [HF.out]
  rintro e w1 ⟨rfl, hb1⟩
  obtain ⟨hc1, hf1, hz1⟩ := bcell hb1
  simp only [World.size_alloc] at hz1
  have y0 := fun o => hc1 w.heap.size o (by simp; omega)
  have y1 := fun o => hc1 (w.heap.size + 1) o (by simp)
  have y2 := fun o => hc1 (w.heap.size + 1 + 1) o (by simp)
  have z2 := fun o => hf1 (w.heap.size + 1 + 1) o (by simp)
  have X2 := Lib.hid (Box.later (Box.new' (b := w.heap.size + 1 + 1) [I 0, I 0, .slice none 0 0, .slice none 0 0, .slice none 0 0] 115 (by simp)) hb1)
  have hB1 := Lib.hid (show Below w.heap.size w w1 by (repeat (first | assumption | exact Below.refl _ _ | refine Below.alloc ?_ (by first | omega | (simp only [World.size_alloc]; omega) | (simp; done)) _ | refine Below.trans ?_ (Below.mono (by assumption) (by first | omega | (simp only [World.size_alloc]; omega) | (simp; done))))))
  clear hc1 hf1
  go_wp2_with (first | (go_at_call 53; refine Calls.mono (within_any _ _ _ _) ?_; rintro e w' ⟨rfl, rfl⟩) | (go_at_call 48; refine Calls.mono (on_any _ _ _ _ _ _ _) ?_; rintro e w2 ⟨rfl, hbw2⟩; obtain ⟨hcw2, hfw2, hzw2⟩ := bcell hbw2; (try simp only [World.size_alloc] at hzw2); have := fun o => hcw2 (w.heap.size) o (by first | omega | (simp only [World.size_alloc]; omega) | (simp; done)); have := fun o => hfw2 (w.heap.size) o (by first | omega | (simp only [World.size_alloc]; omega) | (simp; done)); have := fun o => hcw2 (w.heap.size+1) o (by first | omega | (simp only [World.size_alloc]; omega) | (simp; done)); have := fun o => hfw2 (w.heap.size+1) o (by first | omega | (simp only [World.size_alloc]; omega) | (simp; done)); have := fun o => hcw2 (w.heap.size+1+1) o (by first | omega | (simp only [World.size_alloc]; omega) | (simp; done)); have := fun o => hfw2 (w.heap.size+1+1) o (by first | omega | (simp only [World.size_alloc]; omega) | (simp; done)); clear hcw2 hfw2))
  have hB2 : Below w.heap.size w w2 := hB1.out.trans (hbw2.mono (by omega))
  refine Calls.mono (balls_any l ha pa hc pc _ (HH.out.below hB2 (Nat.le_refl _)) HV.out) ?_
  rintro e w3 ⟨g, rfl, hg, hball, hb3⟩
  obtain ⟨hc3, hf3, hz3⟩ := bcell hb3
  have u2 := fun o => hc3 (w.heap.size + 1 + 1) o (by omega)
  have v2 := fun o => hf3 (w.heap.size + 1 + 1) o (by omega)
  have HB := Lib.hid hball
  have X3 := Lib.hid ((X2.out.later hbw2).later hb3)
  clear hc3 hf3 hball
  go_wp2_with fail
  refine bodyPost_ret (res_cell_tmp rfl _ rfl (X3.out.set 0 (I l.boards) |>.set 1 (I l.rows) |>.set 2 (.slice ha l.hooks.length hc) |>.set 3 (.slice pa l.patches.length pc) |>.set 4 (.slice (some ⟨g, 0, none⟩) l.rows.toNat l.rows.toNat)) Tryz.underlying115 rfl (by kernel_rfl)) rfl ⟨g, rfl, by omega, ?_, ?_⟩
  · obtain ⟨b1, b2, cs, b3, b4⟩ := HB.out
    have hbb : Below w.heap.size w (w3.setCell ⟨w.heap.size + 1 + 1, 0, none⟩ (I l.boards) |>.setCell ⟨w.heap.size + 1 + 1, 1, none⟩ (I l.rows) |>.setCell ⟨w.heap.size + 1 + 1, 2, none⟩ (.slice ha l.hooks.length hc) |>.setCell ⟨w.heap.size + 1 + 1, 3, none⟩ (.slice pa l.patches.length pc) |>.setCell ⟨w.heap.size + 1 + 1, 4, none⟩ (.slice (some ⟨g, 0, none⟩) l.rows.toNat l.rows.toNat)) := by
      repeat refine below_set ?_ (by omega)
      exact hB2.trans (hb3.mono hB2.size)
    refine ⟨HH.out.below hbb (Nat.le_refl _), HV.out, cs, ?_, b4⟩
    exact ((((b3.other (by show w.heap.size + 1 + 1 ≠ g; omega) _).other (by show w.heap.size + 1 + 1 ≠ g; omega) _).other (by show w.heap.size + 1 + 1 ≠ g; omega) _).other (by show w.heap.size + 1 + 1 ≠ g; omega) _).other (by show w.heap.size + 1 + 1 ≠ g; omega) _
  · repeat refine below_set ?_ (by omega)
    exact hB2.trans (hb3.mono hB2.size)
end Go.Proofs.YthpkgabckklojaaGreat

/- The walks of package path: the iterator of follow. -/
namespace Go.Proofs.YthpkgabckklojaaGreat
open Go.RowKit Go.Shelf
attribute [local go_sem] Oper.semAt_some

/-- The turns of a range, from the least on. -/
def turnsOf (r : Rg) : List Int := (List.range (r.hi - r.lo + 1).toNat).map fun i : Nat => r.lo + (i : Int)
theorem turnsOf_len (r : Rg) : (turnsOf r).length = (r.hi - r.lo + 1).toNat := by simp [turnsOf]
theorem turnsOf_get (r : Rg) (k : Nat) (h : k < (turnsOf r).length) : (turnsOf r)[k] = r.lo + k := by simp [turnsOf]
theorem mem_turnsOf {r : Rg} {t : Int} : t ∈ turnsOf r ↔ r.lo ≤ t ∧ t ≤ r.hi := by
  simp only [turnsOf, List.mem_map, List.mem_range]
  constructor
  · rintro ⟨i, hi, rfl⟩; omega
  · rintro ⟨h1, h2⟩; exact ⟨(t - r.lo).toNat, by omega, by omega⟩

/-- What the iterator hands out: a turn of the hooks, and the state behind it. -/
abbrev Turned (hk : Rg) (s : St) := { x : Int × St // hk.lo ≤ x.1 ∧ x.1 ≤ hk.hi ∧ x.2 = nextS s x.1 }
def encT {hk : Rg} {s : St} (x : Turned hk s) : Array Value := #[I x.1.1, .agg #[I x.1.2.b, I x.1.2.d]]
def turnAt {hk : Rg} {s : St} (t : Int) (h : hk.lo ≤ t ∧ t ≤ hk.hi) : Turned hk s := ⟨(t, nextS s t), h.1, h.2, rfl⟩

set_option maxRecDepth 100000 in
set_option maxHeartbeats 1000000 in
theorem follow_stops (hk : Rg) (s : St) (hb sb : Nat) (w : World) (b1 : -3 ≤ hk.lo) (b2 : hk.hi ≤ 3) (b3 : -5 ≤ s.d) (b4 : s.d ≤ 5) (b5 : -1000 ≤ s.b) (b6 : s.b ≤ 1000)
    (hx : Box w hb [I hk.lo, I hk.hi]) (hs : Box w sb [I s.b, I s.d]) :
    SeqStopsK Fence.wide 2 Tryz.prog 143 #[.pointer (some ⟨hb, 0, none⟩), .pointer (some ⟨sb, 0, none⟩)] (encT (hk := hk) (s := s)) (KeptKs [hb, sb])
      (fun xs => xs.map (fun x => x.1.1) = turnsOf hk) (fun pre => ∃ k, k ≤ (turnsOf hk).length ∧ pre.map (fun x => x.1.1) = (turnsOf hk).take k) (turnsOf hk).length w := by
  intro l J Jx W hW hJ hJx hY h0
  have hx' := hx.later hW
  have hs' := hs.later hW
  refine callsIn_of_wp Tryz.func143 rfl trivial ?_ rfl
  simp only [Tryz.ntmps143, List.size_toArray, List.length_cons, List.length_nil, Nat.reduceAdd, Nat.reduceSub, Array.replicate_succ, Array.replicate_zero, List.push_toArray, List.append_toArray, List.nil_append, List.cons_append]
  have y0 := hx'.cell 0 rfl
  gi_wp2_with fail
  gi_loopw [4] (fun i wr => ∃ k : Nat, ∃ pre : List (Turned hk s), i = I (hk.lo + k) ∧ k ≤ (turnsOf hk).length ∧ pre.map (fun x => x.1.1) = (turnsOf hk).take k ∧ J pre wr ∧ Box wr hb [I hk.lo, I hk.hi] ∧ Box wr sb [I s.b, I s.d])
    (fun i _ => (hk.hi + 1 - intOf i).toNat)
  case atStart => exact ⟨0, [], by simp, by omega, rfl, h0, hx', hs'⟩
  case round =>
    clear y0 hx' hs' h0
    obtain ⟨k, pre, rfl, hkl, hpre, hj, hx', hs'⟩ := hrel
    have y0 := hx'.cell 0 rfl
    have y1 := hx'.cell 1 rfl
    have z0 := hs'.cell 0 rfl
    have z1 := hs'.cell 1 rfl
    rw [turnsOf_len] at hkl
    by_cases hlt : hk.lo + k ≤ hk.hi
    · have hplen : pre.length = k := by
        have := congrArg List.length hpre
        rw [List.length_map, List.length_take, turnsOf_len] at this; omega
      have hN := fun (W1 : World) => next_any s (hk.lo + k) W1 b3 b4 (by omega) (by omega) b5 b6
      have HN := Lib.hid hN
      have HP := Lib.hid hpre
      clear hN hpre
      gi_wp2_with fail
      refine ⟨trivial, (callsIn_wide.2 (HN.out wr)).mono ?_⟩
      rintro e w1 ⟨rfl, hb1⟩
      have hj1 : J pre w1 := hJ pre wr w1 none hj ⟨hb1.os, hb1.tape, hb1.output, hb1.size, fun k hk _ => hb1.block k hk⟩ (fun r h => by cases h)
      have hx1 := hx'.later hb1
      have hs1 := hs'.later hb1
      obtain ⟨fn, tmps, assign, body, hy, hR⟩ := hY pre (turnAt (hk.lo + k) ⟨by omega, hlt⟩) w1 hj1 (by rw [turnsOf_len]; omega)
      simp only [encT, turnAt] at hy
      clear y0 y1 z0 z1
      gi_wp2_with fail
      refine hR.mono ?_
      have hpre2 : (pre ++ [turnAt (hk := hk) (s := s) (hk.lo + k) ⟨by omega, hlt⟩]).map (fun x => x.1.1) = (turnsOf hk).take (k + 1) := by
        rw [List.map_append, HP.out, List.take_succ_eq_append_getElem (by rw [turnsOf_len]; omega), turnsOf_get]; rfl
      rintro e W3 (⟨rfl, hJ3, hk3⟩ | ⟨rfl, hJx3⟩)
      · have e1 := hk3 hb (by simp)
        have e2 := hk3 sb (by simp)
        have hx3 : Box W3 hb [I hk.lo, I hk.hi] := by obtain ⟨T, h⟩ := hx1; exact ⟨T, e1.trans h⟩
        have hs3 : Box W3 sb [I s.b, I s.d] := by obtain ⟨T, h⟩ := hs1; exact ⟨T, e2.trans h⟩
        have HP2 := Lib.hid hpre2
        clear hpre2 hk3 e1 e2
        gi_wp2_with fail
        go_roundw
        case rel => exact ⟨k + 1, _, by go_num, by rw [turnsOf_len]; omega, HP2.out, hJ3, hx3, hs3⟩
        case measure => simp [intOf]; omega
      · have HP2 := Lib.hid hpre2
        clear hpre2
        gi_wp2_with fail
        refine bodyPost_ret (results_none rfl _ _ _) rfl ?_
        exact ⟨⟨_, rfl⟩, .inr ⟨_, ⟨k + 1, by rw [turnsOf_len]; omega, HP2.out⟩, hJx3⟩⟩
    · have HP := Lib.hid hpre
      clear hpre
      gi_wp2_with fail
      go_end0
      exact ⟨⟨_, rfl⟩, .inl ⟨pre, by rw [HP.out, List.take_of_length_le (by rw [turnsOf_len]; omega)], hj⟩⟩
end Go.Proofs.YthpkgabckklojaaGreat

/- States and spots as keys of maps; '==' on states. -/
namespace Go.Proofs.YthpkgabckklojaaGreat
open Go.RowKit Go.Shelf

def ekSt (s : St) : Value := .agg #[I s.b, I s.d]
def ekSp (x : Int × St) : Value := .agg #[I x.1, I x.2.b, I x.2.d]
theorem heldSt : Tryz.prog.stoodInHeld 49 = false := by kernel_rfl
theorem St.ext' {a b : St} : a = b ↔ a.b = b.b ∧ a.d = b.d := by cases a; cases b; simp
theorem eqSt_run (d : Nat) (a b c e : Int) (w : World) : (Op.equalIn (d + 2) 49 (.agg #[I a, I b]) (.agg #[I c, I e])).run Tryz.prog w = .ok (decide (a = c ∧ b = e)) w := by
  have ht : Tryz.prog.underlying 49 = some (.struct (Tryz.prog.fieldsOf 49)) := by simp [Program.fieldsOf]
  rw [run_equalIn_struct w (d + 1) 49 _ _ ht heldSt]
  clear ht
  simp [go_sem]
  by_cases h1 : a = c <;> by_cases h2 : b = e <;> simp [h1, h2]
theorem chkSt_run (n : Nat) (e : Bool) (a : St) (w : World) : (Instr.checkKey e (n + 2) 49 (ekSt a)).run Tryz.prog w = .ok () w := by
  unfold ekSt
  simp [Instr.checkKey, go_sem]
theorem goodSt : GoodKey Tryz.prog 49 ekSt := by
  refine GoodKey.of_struct Tryz.underlying49 (fun b k w => chkSt_run 9998 b k w) (fun a b w => ?_) (fun k => ?_) (fun a b h => ?_)
  · show (Op.equalIn (9998 + 2) 49 (ekSt a) (ekSt b)).run Tryz.prog w = _
    rw [show ekSt a = .agg #[I a.b, I a.d] from rfl, show ekSt b = .agg #[I b.b, I b.d] from rfl, eqSt_run]
    congr 1; exact decide_eq_decide.2 St.ext'.symm
  · show Instr.sameBits (9999 + 1) _ _ = true
    simp [ekSt, Instr.sameBits]
  · simp [ekSt] at h; exact St.ext'.2 h
end Go.Proofs.YthpkgabckklojaaGreat

/- Which states a ball has in a row, and whether it can be in the gutter: plain. -/
namespace Go.Proofs.YthpkgabckklojaaGreat
open Go.RowKit

/-- The states behind a state in a row. -/
def stepsOf (l : La) (row : Int) (s : St) : List St := (turnsOf (hookOf l row s.b)).map (nextS s)
/-- The ball has the state t in the row k, in some truth. -/
def Rch (l : La) (s0 : St) : Nat → St → Prop
  | 0, t => t = s0
  | k + 1, t => onL l t = true ∧ ∃ s, Rch l s0 k s ∧ t ∈ stepsOf l k s
/-- From the row k it can go into the gutter. -/
def Gut (l : La) (s0 : St) (k : Nat) : Prop := ∃ s, Rch l s0 k s ∧ ∃ t ∈ stepsOf l k s, onL l t = false

/-- Block b is a set of states. -/
def SetIs (w : World) (b : Nat) (P : St → Prop) : Prop := ∃ m : St → Option Unit, MapIs w b ekSt (fun _ => .bool true) m ∧ ∀ t, (m t).isSome = true ↔ P t
theorem SetIs.later {w w' : World} {b : Nat} {P : St → Prop} (h : SetIs w b P) (hb : Below w.heap.size w w') : SetIs w' b P := by
  obtain ⟨m, h1, h2⟩ := h; exact ⟨m, h1.later hb, h2⟩
theorem SetIs.moves {Bs : Nat → Prop} {w w' : World} {b : Nat} {P : St → Prop} (h : SetIs w b P) (hm : Moves Bs w w') (hb : ¬ Bs b) : SetIs w' b P := by
  obtain ⟨m, h1, h2⟩ := h; exact ⟨m, h1.moves hm hb, h2⟩
theorem SetIs.congr {w : World} {b : Nat} {P Q : St → Prop} (h : SetIs w b P) (e : ∀ t, P t ↔ Q t) : SetIs w b Q := by
  obtain ⟨m, h1, h2⟩ := h; exact ⟨m, h1, fun t => (h2 t).trans (e t)⟩
theorem SetIs.lt {w : World} {b : Nat} {P : St → Prop} (h : SetIs w b P) : b < w.heap.size := by obtain ⟨m, h1, _⟩ := h; exact h1.lt

theorem Rch.on {l : La} {s0 : St} (h0 : onL l s0 = true) : ∀ {k : Nat} {t : St}, Rch l s0 k t → onL l t = true
  | 0, t, h => by cases h; exact h0
  | k + 1, t, h => h.1
theorem nextS_d (s : St) (t : Int) : -5 ≤ (nextS s t).d ∧ (nextS s t).d ≤ 5 := clamp_bd _
theorem Rch.d {l : La} {s0 : St} (h0 : -5 ≤ s0.d ∧ s0.d ≤ 5) : ∀ {k : Nat} {t : St}, Rch l s0 k t → -5 ≤ t.d ∧ t.d ≤ 5
  | 0, t, h => by cases h; exact h0
  | k + 1, t, h => by
    obtain ⟨_, s, _, ht⟩ := h
    obtain ⟨x, _, rfl⟩ := List.mem_map.1 ht
    exact nextS_d s x

/-- The least row behind which it can be in the gutter. -/
def GutIs (R : Int) (P : Nat → Prop) (γ : Int) : Prop := (γ = R ∨ ∃ j : Nat, P j ∧ γ = j + 1) ∧ (∀ j : Nat, P j → γ ≤ j + 1) ∧ γ ≤ R ∧ 0 ≤ γ
theorem GutIs.start {R : Int} (h : 0 ≤ R) : GutIs R (fun _ => False) R := ⟨.inl rfl, fun _ h => h.elim, by omega, h⟩
theorem GutIs.congr {R : Int} {P Q : Nat → Prop} {γ : Int} (h : GutIs R P γ) (e : ∀ j, P j ↔ Q j) : GutIs R Q γ :=
  ⟨h.1.imp id (fun ⟨j, h1, h2⟩ => ⟨j, (e j).1 h1, h2⟩), fun j hj => h.2.1 j ((e j).2 hj), h.2.2⟩
theorem GutIs.add {R : Int} {P : Nat → Prop} {γ : Int} (h : GutIs R P γ) (k : Nat) : GutIs R (fun j => P j ∨ j = k) (min γ (k + 1)) := by
  obtain ⟨h1, h2, h3, h4⟩ := h
  refine ⟨?_, ?_, by omega, by omega⟩
  · rcases Int.le_total γ (k + 1) with hle | hle
    · rw [Int.min_eq_left hle]
      exact h1.imp id (fun ⟨j, a, b⟩ => ⟨j, .inl a, b⟩)
    · rw [Int.min_eq_right hle]; exact .inr ⟨k, .inr rfl, rfl⟩
  · rintro j (hj | rfl)
    · have := h2 j hj; omega
    · omega
theorem GutIs.le {R : Int} {P : Nat → Prop} {γ : Int} (h : GutIs R P γ) (row : Nat) (hr : (row : Int) < R) : γ ≤ row ↔ ∃ j, j < row ∧ P j := by
  obtain ⟨h1, h2, h3, h4⟩ := h
  constructor
  · intro hle
    rcases h1 with h1 | ⟨j, hj, e⟩
    · omega
    · exact ⟨j, by omega, hj⟩
  · rintro ⟨j, hj, hp⟩; have := h2 j hp; omega
theorem SetIs.at_ {w w' : World} {b : Nat} {P : St → Prop} (h : SetIs w b P) (e : w'.heap[b]? = w.heap[b]?) : SetIs w' b P := by
  obtain ⟨m, h1, h2⟩ := h; exact ⟨m, h1.at_ e, h2⟩
theorem SetIs.alloc {w : World} {b : Nat} {P : St → Prop} (h : SetIs w b P) (o : Obj) : SetIs (w.alloc o) b P := by
  obtain ⟨m, h1, h2⟩ := h; exact ⟨m, h1.alloc o, h2⟩
theorem onL_start {l : La} {s : St} (h : isStart l s = true) : onL l s = true := by
  simp only [isStart, decide_eq_true_eq] at h
  simp [onL]; omega
theorem start_d {l : La} {s : St} (h : isStart l s = true) : -5 ≤ s.d ∧ s.d ≤ 5 := by
  simp only [isStart, decide_eq_true_eq] at h; omega
theorem SetIs.own {W W' : World} {b B : Nat} {P : St → Prop} {row : Option Nat} (h : SetIs W b P) (hg : W.grownBy W' row) (hr : ∀ r, row = some r → B ≤ r ∧ ∃ o : Obj, W.heap[r]? = some o ∧ o.isCells = false) (hb : b < B) : SetIs W' b P :=
  h.at_ (hg.block b h.lt (fun e => by have := (hr b e.symm).1; omega))
theorem SetIs.set {w : World} {b c i : Nat} {u : Value} {P : St → Prop} (h : SetIs w b P) (hn : b ≠ c) : SetIs (w.setCell ⟨c, i, none⟩ u) b P := by
  obtain ⟨m, h1, h2⟩ := h; exact ⟨m, h1.set hn, h2⟩
theorem SetIs.no_box {w : World} {b c : Nat} {cs : List Value} {P : St → Prop} (h : SetIs w b P) (hx : Box w c cs) : b ≠ c := by
  obtain ⟨m, h1, h2⟩ := h; exact h1.no_box hx
theorem SetIs.no_row {w : World} {B : Nat} {T : TypeId} {z g n cap : Nat} {cs : List Value} {b : Nat} {P : St → Prop} (h : SetIs w b P) (hx : Row w B T z g n cap cs) : b ≠ g := by
  obtain ⟨m, h1, h2⟩ := h; exact hx.no_map h1
theorem left_iff {R : St → Prop} {ls : List St} {s : St} (hs : R s) (A : St → Prop) : ((∃ s', (R s' ∧ s' ∉ ls) ∧ A s') ∨ A s) ↔ ∃ s', (R s' ∧ s' ∉ ls.filter (fun x => decide (x ≠ s))) ∧ A s' := by
  constructor
  · rintro (⟨s', ⟨h1, h2⟩, h3⟩ | h)
    · exact ⟨s', ⟨h1, fun hm => h2 (List.mem_filter.1 hm).1⟩, h3⟩
    · exact ⟨s, ⟨hs, by simp⟩, h⟩
  · rintro ⟨s', ⟨h1, h2⟩, h3⟩
    by_cases e : s' = s
    · subst e; exact .inr h3
    · exact .inl ⟨s', ⟨h1, fun hm => h2 (List.mem_filter.2 ⟨hm, by simpa using e⟩)⟩, h3⟩
theorem MarksIn.no_walk {w : World} {B0 b r : Nat} {Ds : List Nat} (hm : MarksIn B0 w Ds) {κ ν : Type} {ek : κ → Value} {ev : ν → Value} {m : κ → Option ν} {ls : List κ} (h : WalkIs w b r ek ev m ls) : ∀ D ∈ Ds, D ≠ r := by
  rintro D hD rfl
  obtain ⟨es, clock, since, c0, seen, _, hb, _⟩ := h
  have := (hm.2 D hD).2
  rw [hb] at this; cases this
theorem MarksIn.no_set {w : World} {B0 b : Nat} {Ds : List Nat} (hm : MarksIn B0 w Ds) {P : St → Prop} (h : SetIs w b P) : ∀ D ∈ Ds, D ≠ b := by
  obtain ⟨m, h, _⟩ := h; exact hm.no_map h
/-- What 'reached' hands back. -/
structure ReachedAt (w w' : World) (l : La) (s0 : St) (A cap : Nat) (ms : List Nat) (γ : Int) : Prop where
  len : ms.length = l.rows.toNat
  row : Row w' w.heap.size 132 1 A l.rows.toNat cap (ms.map fun b => .map (some b))
  sets : ∀ (j : Nat) (h : j < ms.length), w.heap.size ≤ ms[j] ∧ SetIs w' ms[j] (Rch l s0 j)
  gut : GutIs l.rows (fun j => j + 1 < l.rows.toNat ∧ Gut l s0 j) γ
  below : Below w.heap.size w w'
theorem SetIs.wiped {B : Nat} {w w' : World} {b : Nat} {P : St → Prop} (h : SetIs w b P) (hw : Wiped B w w') : SetIs w' b P := by
  obtain ⟨m, h1, h2⟩ := h; exact ⟨m, hw.map h1, h2⟩
end Go.Proofs.YthpkgabckklojaaGreat

/- The walk of package path: reached. -/
namespace Go.Proofs.YthpkgabckklojaaGreat
open Go.RowKit Go.Shelf
attribute [local go_sem] Oper.semAt_some

theorem zeroBool (w : World) : (zeroValue 4).run Tryz.prog w = .ok (.bool false) w := by kernel_rfl
theorem enter_follow (args : Array Value) (w : World) : (callFunc 143 args).run Tryz.prog w = .ok (.enter 143 args) w := by kernel_rfl
theorem elemSets : ElemOf Tryz.prog 128 132 1 8 := .mk' (z := .map none) Tryz.underlying128 (by kernel_rfl) rfl (by decide) (by decide)

theorem seen_iff {l : La} {k : Int} {s : St} {xs : List (Turned (hookOf l k s.b) s)} (h : xs.map (fun x => x.1.1) = turnsOf (hookOf l k s.b)) (A : St → Prop) : (∃ x ∈ xs, A x.1.2) ↔ ∃ t ∈ stepsOf l k s, A t := by
  constructor
  · rintro ⟨x, hx, ha⟩
    refine ⟨x.1.2, List.mem_map.2 ⟨x.1.1, ?_, x.2.2.2.symm⟩, ha⟩
    rw [← h]; exact List.mem_map.2 ⟨x, hx, rfl⟩
  · rintro ⟨t, ht, ha⟩
    obtain ⟨u, hu, rfl⟩ := List.mem_map.1 ht
    rw [← h] at hu
    obtain ⟨x, hx, rfl⟩ := List.mem_map.1 hu
    exact ⟨x, hx, by rw [x.2.2.2]; exact ha⟩
/-- What holds ahead of a round. -/
structure RInv (w W : World) (l : La) (s0 : St) (ha : Option Addr) (hc : Nat) (pa : Option Addr) (pc g k g4 cap4 : Nat) (ms : List Nat) (γ : Int) : Prop where
  b : Box W w.heap.size [I l.boards, I l.rows, .slice ha l.hooks.length hc, .slice pa l.patches.length pc, .slice (some ⟨g, 0, none⟩) l.rows.toNat l.rows.toNat]
  s : Box W (w.heap.size + 1) [I s0.b, I s0.d]
  γb : Box W (w.heap.size + 1 + 1) [I γ]
  len : ms.length = k + 1
  row : Row W (w.heap.size + 3) 132 1 g4 (k + 1) cap4 (ms.map fun b => .map (some b))
  sets : ∀ (j : Nat) (h : j < ms.length), w.heap.size ≤ ms[j] ∧ SetIs W ms[j] (Rch l s0 j)
  gut : GutIs l.rows (fun j => j < k ∧ Gut l s0 j) γ
  below : Below w.heap.size w W

/-- What holds ahead of a round of the inner loop. -/
structure SInv (w1 W : World) (l : La) (s0 : St) (m : St → Option Unit) (gb nb bm r k : Nat) (ls : List St) (γ : Int) : Prop where
  walk : WalkIs W bm r ekSt (fun _ : Unit => .bool true) m ls
  next : SetIs W nb (fun t => onL l t = true ∧ ∃ s, (Rch l s0 k s ∧ s ∉ ls) ∧ t ∈ stepsOf l k s)
  γb : Box W gb [I γ]
  gut : GutIs l.rows (fun j => (j < k ∧ Gut l s0 j) ∨ (j = k ∧ ∃ s, (Rch l s0 k s ∧ s ∉ ls) ∧ ∃ t ∈ stepsOf l k s, onL l t = false)) γ
  mv : Moves (fun b => b = gb ∨ b = nb ∨ b = r) w1 W
  sub : ∀ s, s ∈ ls → Rch l s0 k s

/-- What holds ahead of a round of the innermost loop. -/
def IInv (l : La) (s0 : St) (gb nb k : Nat) (ls : List St) {hk : Rg} {s : St} (pre : List (Turned hk s)) (W : World) : Prop := ∃ γ : Int,
  SetIs W nb (fun t => (onL l t = true ∧ ∃ s, (Rch l s0 k s ∧ s ∉ ls) ∧ t ∈ stepsOf l k s) ∨ (onL l t = true ∧ ∃ x ∈ pre, x.1.2 = t)) ∧ Box W gb [I γ] ∧
  GutIs l.rows (fun j => ((j < k ∧ Gut l s0 j) ∨ (j = k ∧ ∃ s, (Rch l s0 k s ∧ s ∉ ls) ∧ ∃ t ∈ stepsOf l k s, onL l t = false)) ∨ (j = k ∧ ∃ x ∈ pre, onL l x.1.2 = false)) γ
theorem IInv.own (l : La) (s0 : St) (gb nb k B : Nat) (ls : List St) {hk : Rg} {s : St} (hn : nb < B) : OwnFrom B (IInv l s0 gb nb k ls (hk := hk) (s := s)) := by
  rintro pre W W' row ⟨γ, h1, h2, h3⟩ hg hr
  exact ⟨γ, h1.own hg hr hn, own_box (β := Unit) () W W' row h2 hg hr, h3⟩

set_option maxRecDepth 100000 in
set_option maxHeartbeats 1000000 in
theorem reached_any (l : La) (s0 : St) (ha pa : Option Addr) (hc pc g : Nat) (w : World) (H : BallAt w l ha hc pa pc g) (h0 : isStart l s0 = true) :
    Calls Tryz.prog 54 #[.agg #[I l.boards, I l.rows, .slice ha l.hooks.length hc, .slice pa l.patches.length pc, .slice (some ⟨g, 0, none⟩) l.rows.toNat l.rows.toNat], .agg #[I s0.b, I s0.d]] w fun e w' => ∃ (A cap : Nat) (ms : List Nat) (γ : Int), e = .returned (.tuple #[.slice (some ⟨A, 0, none⟩) l.rows.toNat cap, I γ]) ∧ ReachedAt w w' l s0 A cap ms γ := by
  have hmm := @run_makeMap Tryz.prog
  have V := H.valid
  have r1 := V.r1
  have r2 := V.r2
  refine calls_of_wpC Tryz.func54 rfl w.heap.size ?_
  simp only [Tryz.ntmps54, List.size_toArray, List.length_cons, List.length_nil, Nat.reduceAdd, Nat.reduceSub, Array.replicate_succ, Array.replicate_zero, List.push_toArray, List.append_toArray, List.nil_append, List.cons_append]
  go_wp2_with (first
    | (((with_reducible show wpList _ _ _ (⟨_, Op.insert _ _ _ _, _, _, _, _⟩ :: _) _ _); (refine wpList_insertM rfl _ _ _ 132 rfl _ _ rfl goodSt _ rfl (MapIs.made' (ν := Unit) ekSt (fun _ => .bool true) (by simp)) (s0) rfl (()) rfl ?_); intro w1 hMw1 hvw1 hzw1)
       have xb : Box w1 w.heap.size [I l.boards, I l.rows, .slice ha l.hooks.length hc, .slice pa l.patches.length pc, .slice (some ⟨g, 0, none⟩) l.rows.toNat l.rows.toNat] := hvw1.box ((((Box.new w _ _).alloc _).alloc _).alloc _) (by omega)
       have xs : Box w1 (w.heap.size + 1) [I s0.b, I s0.d] := hvw1.box (((Box.new' _ _ (by simp)).alloc _).alloc _) (by omega)
       have xg : Box w1 (w.heap.size + 1 + 1) [I 0] := hvw1.box ((Box.new' _ _ (by simp)).alloc _) (by omega)
       have hs1 : w1.heap.size = w.heap.size + 1 + 1 + 1 + 1 := by rw [hzw1]; simp)
    | ((at_builtin; (refine wpList_appendR rfl _ _ 128 rfl _ _ _ elemSets (w.heap.size + 3) (.slice none 0 0) (0) ([]) rfl (World.ownsRow_nil _ _ _ _) _ _ ([.map (some (w.heap.size + 1 + 1 + 1))]) rfl rfl (Box.new' _ _ hs1.symm) (by simp [Value.oneCell']) (by omega) (by first | omega | (simp only [World.size_alloc]; omega) | (simp; done)) ?_); intro g4 cap4 w2 hR hv2 hd2 hz2)
       simp only [World.size_alloc, Value.ownBlock, reduceCtorEq, false_or] at hd2 hz2
       have ub : Box w2 w.heap.size [I l.boards, I l.rows, .slice ha l.hooks.length hc, .slice pa l.patches.length pc, .slice (some ⟨g, 0, none⟩) l.rows.toNat l.rows.toNat] := hv2.box (xb.alloc _) (by simp [Value.ownBlock])
       have us : Box w2 (w.heap.size + 1) [I s0.b, I s0.d] := hv2.box (xs.alloc _) (by simp [Value.ownBlock])
       have ug : Box w2 (w.heap.size + 1 + 1) [I 0] := hv2.box (xg.alloc _) (by simp [Value.ownBlock])
       have yb := fun i c h => ub.cell i (c := c) h
       have yb1 := yb 1 _ rfl
       have yg := ug.cell 0 rfl
       have yf := ug.free 0
       clear yb))
  clear yb1 yg yf
  refine wp_loop_ghost_k (fun n a' w' => ∃ (k : Nat) (γ : Int) (ms : List Nat) (g4 cap4 : Nat), ∃ (Ds : List Nat), ∃ u1 u6 u7 u8 u9 u10 u11 u12 u13 u14 u15 u16 u17 u18 u19 u20 u21 u22 u25 u26 u27 u28 u29 u30 u31 u32 u33 u34 u35 u36 u37 u38 u39 u40 u41 u42 u43 u44 u45 u46 u47 u48 u49 u50 u51 u52 u53 u54 u55 u56 u57 u58 u59 u60, (n + k + 1 = l.rows.toNat ∧ RInv w w' l s0 ha hc pa pc g k g4 cap4 ms γ) ∧ MarksIn w.heap.size w' Ds ∧ a' = ⟨#[.agg #[I l.boards, I l.rows, .slice ha l.hooks.length hc, .slice pa l.patches.length pc, .slice (some ⟨g, 0, none⟩) l.rows.toNat l.rows.toNat], u1, .pointer (some ⟨w.heap.size, 0, none⟩), .pointer (some ⟨w.heap.size + 1, 0, none⟩), .slice (some ⟨g4, 0, none⟩) (k + 1) cap4, .pointer (some ⟨w.heap.size + 1 + 1, 0, none⟩), u6, u7, u8, u9, u10, u11, u12, u13, u14, u15, u16, u17, u18, u19, u20, u21, u22, I (l.rows - 1), I k, u25, u26, u27, u28, u29, u30, u31, u32, u33, u34, u35, u36, u37, u38, u39, u40, u41, u42, u43, u44, u45, u46, u47, u48, u49, u50, u51, u52, u53, u54, u55, u56, u57, u58, u59, u60], Ds.map Mark⟩) (l.rows.toNat - 1) ?start ?round
  case start =>
    refine ⟨0, l.rows, [w.heap.size + 3], g4, cap4, [], ?_⟩
    (repeat apply Exists.intro)
    refine ⟨⟨by omega, ?_⟩, .nil _ _, rfl⟩
    have hset : SetIs w1 (w.heap.size + 1 + 1 + 1) (Rch l s0 0) := ⟨_, hMw1, fun t => by by_cases e : t = s0 <;> simp [upd, e, Rch]⟩
    have hne : ¬ (w.heap.size + 1 + 1 + 1 = w.heap.size + 1 + 1) := by omega
    have hb1 : Below w.heap.size w w1 := Below.trans (by (repeat (first | assumption | exact Below.refl _ _ | refine Below.alloc ?_ (by first | omega | (simp only [World.size_alloc]; omega) | (simp; done) | (simp; omega)) _ | refine Below.setCell ?_ (by first | omega | (simp only [World.size_alloc]; omega) | (simp; done) | (simp; omega)) _))) (hvw1.below (by simp; omega) (fun i hi => by omega))
    have hb2 : Below w.heap.size w w2 := hb1.trans ((hv2.below (B := w1.heap.size) (by simp) (fun i hi => by simp [Value.ownBlock])).mono (by omega) |> fun h => ((Below.refl _ w1).alloc (by omega) _).trans h)
    refine ⟨ub.other (by show w.heap.size + 1 + 1 ≠ w.heap.size; omega) _, us.other (by show w.heap.size + 1 + 1 ≠ w.heap.size + 1; omega) _, ug.set 0 _, rfl, ?_, ?_, (GutIs.start (by omega)).congr (by simp), hb2.setCell (p := ⟨w.heap.size + 1 + 1, 0, none⟩) (by show w.heap.size ≤ w.heap.size + 1 + 1; omega) _⟩
    · exact hR.at_ (Below.heap_setCell w2 ⟨w.heap.size + 1 + 1, 0, none⟩ _ g4 (by have := hR.ge; show g4 ≠ w.heap.size + 1 + 1; omega))
    · intro j hj
      have : j = 0 := by simpa using hj
      subst this
      exact ⟨by show w.heap.size ≤ w.heap.size + 3; omega, ((hset.alloc _).moves hv2 (by simp [Value.ownBlock])).set hne⟩
  rintro n a1 wr ⟨k, γ, ms, g4, cap4, hI⟩ J K hJ hK
  have HJ := Lib.hid hJ
  clear hJ
  revert hI; refine ex_arrow fun Ds => ex_arrow fun u1 => ex_arrow fun u6 => ex_arrow fun u7 => ex_arrow fun u8 => ex_arrow fun u9 => ex_arrow fun u10 => ex_arrow fun u11 => ex_arrow fun u12 => ex_arrow fun u13 => ex_arrow fun u14 => ex_arrow fun u15 => ex_arrow fun u16 => ex_arrow fun u17 => ex_arrow fun u18 => ex_arrow fun u19 => ex_arrow fun u20 => ex_arrow fun u21 => ex_arrow fun u22 => ex_arrow fun u25 => ex_arrow fun u26 => ex_arrow fun u27 => ex_arrow fun u28 => ex_arrow fun u29 => ex_arrow fun u30 => ex_arrow fun u31 => ex_arrow fun u32 => ex_arrow fun u33 => ex_arrow fun u34 => ex_arrow fun u35 => ex_arrow fun u36 => ex_arrow fun u37 => ex_arrow fun u38 => ex_arrow fun u39 => ex_arrow fun u40 => ex_arrow fun u41 => ex_arrow fun u42 => ex_arrow fun u43 => ex_arrow fun u44 => ex_arrow fun u45 => ex_arrow fun u46 => ex_arrow fun u47 => ex_arrow fun u48 => ex_arrow fun u49 => ex_arrow fun u50 => ex_arrow fun u51 => ex_arrow fun u52 => ex_arrow fun u53 => ex_arrow fun u54 => ex_arrow fun u55 => ex_arrow fun u56 => ex_arrow fun u57 => ex_arrow fun u58 => ex_arrow fun u59 => ex_arrow fun u60 => ?_; rintro ⟨⟨hn, R⟩, hDs, rfl⟩
  have hk0 : k < ms.length := by rw [R.len]; omega
  have yr : wr.cell? ⟨g4, k, none⟩ = some (.map (some ms[k])) := R.row.cell k (by simp)
  by_cases hlt : (k : Int) < l.rows - 1
  · obtain ⟨bm, hbm⟩ : ∃ bm, ms[k] = bm := ⟨_, rfl⟩
    rw [hbm] at yr
    obtain ⟨sz, m, hm, hmP⟩ := R.sets k hk0
    rw [hbm] at sz hm
    have o1 := R.row.lt
    have o2 : g4 < wr.heap.size + 1 := by omega
    have o3 : g4 < wr.heap.size + 1 + 1 := by omega
    have o4 : bm < wr.heap.size := hm.lt
    have o5 := R.b.lt
    have o6 := R.s.lt
    have o7 := R.γb.lt
    have o8 := R.row.ge
    have RR := Lib.hid R
    have HmP := Lib.hid hmP
    have HD := Lib.hid hDs
    clear R hmP hDs
    go_wp2_with (
       ((with_reducible show wpList _ _ _ (⟨_, Op.range _ _, _, _, _, _⟩ :: _) _ _); (refine wpList_rangeM rfl _ 132 rfl _ _ rfl goodSt.inj _ rfl (((hm.alloc _).alloc _).alloc _) ?_); intro ls w1 hW hN hls hbw1 hz1)
       simp only [World.size_alloc] at hW hz1
       have c6 : Box w1 wr.heap.size [I k] := (((Box.new wr _ _).alloc _).alloc _).later hbw1
       have cN : SetIs w1 (wr.heap.size + 1) (fun _ => False) := ⟨fun _ => none, (((MapIs.made' (ν := Unit) ekSt (fun _ => .bool true) (by simp)).alloc _).later hbw1), by simp⟩
       have c7 : Box w1 (wr.heap.size + 1 + 1) [.map (some (wr.heap.size + 1))] := (Box.new' _ _ (by simp)).later hbw1
       have hbW : Below wr.heap.size wr w1 := Below.trans (by (repeat (first | assumption | exact Below.refl _ _ | refine Below.alloc ?_ (by first | omega | (simp only [World.size_alloc]; omega) | (simp; done) | (simp; omega)) _ | refine Below.setCell ?_ (by first | omega | (simp only [World.size_alloc]; omega) | (simp; done) | (simp; omega)) _))) (hbw1.mono (by simp; omega))
       have HN := Lib.hid hN
       have Hls := Lib.hid hls
       have Hz1 := Lib.hid hz1
       clear hN hls hz1)
    refine wp_loop_ghost_k (fun n a' w' => ∃ (ls : List St) (γ : Int), ∃ (Ds : List Nat), ∃ u1 u8 u9 u10 u11 u12 u13 u14 u15 u16 u17 u18 u19 u20 u21 u22 u25 u26 u27 u28 u29 u30 u31 u33 u34 u35 u36 u37 u38 u39 u40 u41 u42 u43 u44 u45 u46 u47 u48 u49 u50 u51 u52 u53 u54 u55 u56 u57 u58 u59 u60, (n = ls.length ∧ SInv w1 w' l s0 m (w.heap.size + 1 + 1) (wr.heap.size + 1) bm (wr.heap.size + 1 + 1 + 1) k ls γ) ∧ MarksIn w.heap.size w' Ds ∧ a' = ⟨#[.agg #[I l.boards, I l.rows, .slice ha l.hooks.length hc, .slice pa l.patches.length pc, .slice (some ⟨g, 0, none⟩) l.rows.toNat l.rows.toNat], u1, .pointer (some ⟨w.heap.size, 0, none⟩), .pointer (some ⟨w.heap.size + 1, 0, none⟩), .slice (some ⟨g4, 0, none⟩) (k + 1) cap4, .pointer (some ⟨w.heap.size + 1 + 1, 0, none⟩), .pointer (some ⟨wr.heap.size, 0, none⟩), .pointer (some ⟨wr.heap.size + 1 + 1, 0, none⟩), u8, u9, u10, u11, u12, u13, u14, u15, u16, u17, u18, u19, u20, u21, u22, I (l.rows - 1), I k, u25, u26, u27, u28, u29, u30, u31, .pointer (some ⟨wr.heap.size + 1 + 1 + 1, 0, none⟩), u33, u34, u35, u36, u37, u38, u39, u40, u41, u42, u43, u44, u45, u46, u47, u48, u49, u50, u51, u52, u53, u54, u55, u56, u57, u58, u59, u60], Ds.map Mark⟩) ls.length ?start2 ?round2
    case start2 =>
      refine ⟨ls, γ, Ds, ?_⟩
      (repeat apply Exists.intro)
      refine ⟨⟨rfl, ?_⟩, HD.out.later hbW, rfl⟩
      exact ⟨hW, cN.congr (fun t => ⟨fun h => h.elim, fun ⟨_, s, ⟨h1, h2⟩, _⟩ => h2 ((Hls.out s).2 ((HmP.out s).2 h1))⟩), RR.out.γb.later hbW, RR.out.gut.congr (fun j => ⟨fun h => .inl h, fun h => h.elim id (fun ⟨_, s, ⟨h1, h2⟩, _⟩ => (h2 ((Hls.out s).2 ((HmP.out s).2 h1))).elim)⟩), Moves.refl _, fun s hs => (HmP.out s).1 ((Hls.out s).1 hs)⟩
    clear hW cN
    clear u1 u8 u9 u10
    rintro n2 a2 w2 ⟨ls2, γ2, hI2⟩ J2 K2 hJ2 hK2
    have HJ2 := Lib.hid hJ2
    clear hJ2
    revert hI2; refine ex_arrow fun Ds => ex_arrow fun u1 => ex_arrow fun u8 => ex_arrow fun u9 => ex_arrow fun u10 => ex_arrow fun u11 => ex_arrow fun u12 => ex_arrow fun u13 => ex_arrow fun u14 => ex_arrow fun u15 => ex_arrow fun u16 => ex_arrow fun u17 => ex_arrow fun u18 => ex_arrow fun u19 => ex_arrow fun u20 => ex_arrow fun u21 => ex_arrow fun u22 => ex_arrow fun u25 => ex_arrow fun u26 => ex_arrow fun u27 => ex_arrow fun u28 => ex_arrow fun u29 => ex_arrow fun u30 => ex_arrow fun u31 => ex_arrow fun u33 => ex_arrow fun u34 => ex_arrow fun u35 => ex_arrow fun u36 => ex_arrow fun u37 => ex_arrow fun u38 => ex_arrow fun u39 => ex_arrow fun u40 => ex_arrow fun u41 => ex_arrow fun u42 => ex_arrow fun u43 => ex_arrow fun u44 => ex_arrow fun u45 => ex_arrow fun u46 => ex_arrow fun u47 => ex_arrow fun u48 => ex_arrow fun u49 => ex_arrow fun u50 => ex_arrow fun u51 => ex_arrow fun u52 => ex_arrow fun u53 => ex_arrow fun u54 => ex_arrow fun u55 => ex_arrow fun u56 => ex_arrow fun u57 => ex_arrow fun u58 => ex_arrow fun u59 => ex_arrow fun u60 => ?_; rintro ⟨⟨hn2, S⟩, hDs, rfl⟩
    have hz1 := Hz1.out
    have t6 : Box w2 wr.heap.size [I k] := S.mv.box c6 (by first | omega | (intro hh; simp only [Value.ownBlock, Option.some.injEq, reduceCtorEq] at hh; omega) | (intro hh; rcases hh with hh | hh | hh <;> omega))
    have t7 : Box w2 (wr.heap.size + 1 + 1) [.map (some (wr.heap.size + 1))] := S.mv.box c7 (by first | omega | (intro hh; simp only [Value.ownBlock, Option.some.injEq, reduceCtorEq] at hh; omega) | (intro hh; rcases hh with hh | hh | hh <;> omega))
    have tb : Box w2 w.heap.size [I l.boards, I l.rows, .slice ha l.hooks.length hc, .slice pa l.patches.length pc, .slice (some ⟨g, 0, none⟩) l.rows.toNat l.rows.toNat] := S.mv.box (RR.out.b.later hbW) (by first | omega | (intro hh; simp only [Value.ownBlock, Option.some.injEq, reduceCtorEq] at hh; omega) | (intro hh; rcases hh with hh | hh | hh <;> omega))
    have ts : Box w2 (w.heap.size + 1) [I s0.b, I s0.d] := S.mv.box (RR.out.s.later hbW) (by first | omega | (intro hh; simp only [Value.ownBlock, Option.some.injEq, reduceCtorEq] at hh; omega) | (intro hh; rcases hh with hh | hh | hh <;> omega))
    have tr : Row w2 (w.heap.size + 3) 132 1 g4 (k + 1) cap4 (ms.map fun b => .map (some b)) := (RR.out.row.later hbW).moves S.mv (by first | omega | (intro hh; simp only [Value.ownBlock, Option.some.injEq, reduceCtorEq] at hh; omega) | (intro hh; rcases hh with hh | hh | hh <;> omega))
    have hz2 := S.mv.size
    have hbw : Below w.heap.size w w2 := RR.out.below.trans ((hbW.mono RR.out.below.size).trans (S.mv.below (by omega) (fun i hi hh => by rcases hh with hh | hh | hh <;> omega)))
    have y7 := t7.cell 0 rfl
    have y6 := t6.cell 0 rfl
    have HsO := Lib.hid (fun s (h : s ∈ ls2) => Rch.on (onL_start h0) (S.sub s h))
    have SS := Lib.hid S
    have HDs := Lib.hid hDs
    have RL := tr.len
    clear hDs
    by_cases hne : ls2 = []
    · subst hne
      have hdn := fun ty => S.walk.done (P := Tryz.prog) ty
      clear S
      go_wp2_with (
        (at_builtin; (refine wpList_appendR rfl _ _ 128 rfl _ _ _ elemSets (w.heap.size + 3) (.slice (some ⟨g4, 0, none⟩) (k + 1) cap4) (k + 1) (ms.map fun b => .map (some b)) rfl (tr.alloc _) _ _ ([.map (some (wr.heap.size + 1))]) rfl rfl (Box.new' _ _ rfl) (by simp [Value.oneCell']) (by omega) (by first | omega | (simp only [World.size_alloc]; omega) | (simp; done)) ?_); intro g5 cap5 w5 hR5 hv5 hd5 hz5)
        simp only [World.size_alloc, Value.ownBlock, Option.some.injEq] at hd5 hz5)
      refine Handed.intro (n - 1) (by omega) (HJ.out _ _ _ ?_)
      refine ⟨k + 1, γ2, ms ++ [wr.heap.size + 1], g5, cap5, Ds, ?_⟩
      (repeat apply Exists.intro)
      refine ⟨⟨by omega, ?_⟩, ?_, by go_num⟩
      · have n1 : w.heap.size < g4 := by omega
        have nb : ¬ (wr.heap.size + 1 = g4) := by omega
        have bx : ∀ {b : Nat} {cs : List Value}, Box w2 b cs → b ≠ g4 → Box w5 b cs := fun h hn => hv5.box (h.alloc _) (by simp only [Value.ownBlock, Option.some.injEq]; exact fun e => hn e.symm)
        have st : ∀ {b : Nat} {P : St → Prop}, SetIs w2 b P → b ≠ g4 → SetIs w5 b P := fun h hn => (h.alloc _).moves hv5 (by simp only [Value.ownBlock, Option.some.injEq]; exact fun e => hn e.symm)
        refine ⟨bx tb (by omega), bx ts (by omega), bx SS.out.γb (by omega), by simp [RR.out.len], by simpa using hR5, ?_, SS.out.gut.congr fun j => ?_, hbw.trans (((Below.refl _ w2).alloc hbw.size _).trans (hv5.below (by simp; omega) (fun i hi => by simp only [Value.ownBlock, Option.some.injEq]; omega)))⟩
        · intro j hj
          by_cases e : j < ms.length
          · have h1 := RR.out.sets j e
            rw [List.getElem_append_left e]
            have h2 : SetIs w2 ms[j] (Rch l s0 j) := (h1.2.later hbW).moves SS.out.mv (by have a1 := h1.2.lt; have a2 := h1.2.no_box RR.out.γb; intro hh; rcases hh with hh | hh | hh <;> omega)
            exact ⟨h1.1, st h2 (h2.no_row tr)⟩
          · have e1 : j = ms.length := by simp at hj; omega
            subst e1
            rw [List.getElem_append_right (Nat.le_refl _)]
            simp only [Nat.sub_self, List.getElem_cons_zero]
            refine ⟨by omega, ?_⟩
            have hl := RR.out.len
            rw [hl]
            refine (st SS.out.next nb).congr fun t => ?_
            simp [Rch]
        · simp only [List.not_mem_nil, not_false_eq_true, and_true]
          constructor
          · rintro (⟨h1, h2⟩ | ⟨rfl, s, h1, t, h2, h3⟩)
            · exact ⟨by omega, h2⟩
            · exact ⟨by omega, s, h1, t, h2, h3⟩
          · rintro ⟨h1, h2⟩
            by_cases e : j < k
            · exact .inl ⟨e, h2⟩
            · have : j = k := by omega
              subst this
              obtain ⟨s, h1, t, h2, h3⟩ := h2
              exact .inr ⟨rfl, s, h1, t, h2, h3⟩
      · exact (HDs.out.later ((Below.refl _ _).alloc (Nat.le_refl _) _)).moves hv5 (fun d hd => by have := HDs.out.no_row tr d hd; simp only [Value.ownBlock, Option.some.injEq]; omega)
    · have hB : ∀ W, Below w.heap.size w W → BallAt W l ha hc pa pc g := fun W hb => H.later hb
      have HB := Lib.hid hB
      clear hB
      have p1 : w.heap.size < w2.heap.size := by omega
      have p2 : wr.heap.size < w2.heap.size := by omega
      have ke : ∀ s : St, ekSt s = .agg #[I s.b, I s.d] := fun _ => rfl
      go_wp2_with (first
        | (((with_reducible show wpList _ _ _ (⟨_, Op.next _ _, _, _, _, _⟩ :: _) _ _); (refine wpList_nextM rfl _ rfl goodSt.inj _ _ rfl _ S.walk hne ?_); intro s v w3 hs hv hW3 hm3 hz3 hent)
           have v7 := hm3.box t7 (by first | omega | (intro hh; simp only [Value.ownBlock, Option.some.injEq, reduceCtorEq] at hh; omega) | (intro hh; rcases hh with hh | hh | hh <;> omega))
           have v6 := hm3.box t6 (by first | omega | (intro hh; simp only [Value.ownBlock, Option.some.injEq, reduceCtorEq] at hh; omega) | (intro hh; rcases hh with hh | hh | hh <;> omega))
           have vb := hm3.box tb (by first | omega | (intro hh; simp only [Value.ownBlock, Option.some.injEq, reduceCtorEq] at hh; omega) | (intro hh; rcases hh with hh | hh | hh <;> omega))
           have hb3 : Below w.heap.size w w3 := hbw.trans (hm3.below (by omega) (fun i hi hh => by omega))
           have x7 := v7.cell 0 rfl
           have x6 := v6.cell 0 rfl
           have xb := fun i c h => vb.cell i (c := c) h
           have xb0 := xb 0 _ rfl
           have xb1 := xb 1 _ rfl
           have xb2 := xb 2 _ rfl
           have xb3 := xb 3 _ rfl
           have xb4 := xb 4 _ rfl
           clear xb)
        | (go_at_call 101; refine Calls.mono (follow_any l k s ha pa hc pc g _ (HB.out _ (hb3.alloc (by first | omega | (simp only [World.size_alloc]; omega) | (simp; done) | (simp; omega)) _)) (by omega) (by omega) (HsO.out s hs)) ?_; rintro e w4 ⟨hb, sb, rfl, q1, q2, q3, q4, hb4⟩))
      have zb4 := hb4.size
      simp only [World.size_alloc] at zb4 q1 q2
      have Hhk := Lib.hid (hookOf_bd V (k : Int) s.b)
      refine wp_range (P := Tryz.prog) (encs := encT (hk := hookOf l k s.b) (s := s)) rfl enter_follow [hb, sb]
        (fun b => b = w.heap.size + 1 + 1 ∨ b = wr.heap.size + 1) ?hKs ?hBs (follow_stops (hookOf l k s.b) s hb sb w4 ?b1 ?b2 ?b3 ?b4 ?b5 ?b6 q3 q4) (Below.refl _ _) (fun _ => rfl)
        (IInv l s0 (w.heap.size + 1 + 1) (wr.heap.size + 1) k ls2 (hk := hookOf l k s.b) (s := s)) (fun _ _ _ => False) (IInv.own _ _ _ _ _ _ _ (by omega)) (fun _ _ _ _ _ h => h.elim) ?h0
        (fun x a' W => ∃ (t10 : Nat) (u : Nat → Value), w4.heap.size ≤ t10 ∧ Box W t10 [I x.1.2.b, I x.1.2.d] ∧ a' = ⟨#[.agg #[I l.boards, I l.rows, .slice ha l.hooks.length hc, .slice pa l.patches.length pc, .slice (some ⟨g, 0, none⟩) l.rows.toNat l.rows.toNat], u 1, .pointer (some ⟨w.heap.size, 0, none⟩), .pointer (some ⟨w.heap.size + 1, 0, none⟩), .slice (some ⟨g4, 0, none⟩) (k + 1) cap4, .pointer (some ⟨w.heap.size + 1 + 1, 0, none⟩), .pointer (some ⟨wr.heap.size, 0, none⟩), .pointer (some ⟨wr.heap.size + 1 + 1, 0, none⟩), u 8, u 9, .pointer (some ⟨t10, 0, none⟩), u 11, u 12, u 13, u 14, u 15, u 16, u 17, u 18, u 19, u 20, u 21, u 22, u 23, u 24, u 25, u 26, u 27, u 28, u 29, u 30, u 31, u 32, u 33, u 34, u 35, u 36, u 37, u 38, u 39, u 40, u 41, u 42, u 43, u 44, u 45, u 46, u 47, u 48, u 49, u 50, u 51, u 52, u 53, u 54, u 55, u 56, u 57, u 58, u 59, u 60], []⟩) ?hAx ?assign ?body ?done ?stop
      case hKs => intro b hb'; simp only [List.mem_cons, List.not_mem_nil, or_false] at hb'; rcases hb' with rfl | rfl <;> constructor <;> first | exact q3.lt | exact q4.lt | omega
      case hBs => rintro b (rfl | rfl) <;> omega
      case b1 => exact Hhk.out.1
      case b2 => exact Hhk.out.2.2
      case b3 => exact (Rch.d (start_d h0) (SS.out.sub s hs)).1
      case b4 => exact (Rch.d (start_d h0) (SS.out.sub s hs)).2
      case b5 =>
                  have h1 : 1 ≤ s.b ∧ s.b ≤ l.boards := by simpa [onL] using HsO.out s hs
                  have := V.b2; omega
      case b6 =>
                  have h1 : 1 ≤ s.b ∧ s.b ≤ l.boards := by simpa [onL] using HsO.out s hs
                  have := V.b2; omega
      case h0 =>
        have hm4 : Moves (fun b => b = wr.heap.size + 1 + 1 + 1) w2 w4 := (hm3.alloc _).trans (Moves.of_below (Bs := fun _ => False) hb4) (fun _ _ h => h.elim)
        exact ⟨γ2, (SS.out.next.moves hm4 (by first | omega | (intro hh; simp only [Value.ownBlock, Option.some.injEq, reduceCtorEq] at hh; omega) | (intro hh; rcases hh with hh | hh | hh <;> omega))).congr (by simp), hm4.box SS.out.γb (by first | omega | (intro hh; simp only [Value.ownBlock, Option.some.injEq, reduceCtorEq] at hh; omega) | (intro hh; rcases hh with hh | hh | hh <;> omega)), SS.out.gut.congr (by simp)⟩
      case hAx =>
        rintro x a' _ W W' row ⟨t10, u, h1, h2, h3⟩ hg hr
        exact ⟨t10, u, h1, own_box (β := Unit) () W W' row h2 hg hr, h3⟩
      case assign =>
        rintro l' pre x W K3 hm hI hK3
        rw [show encT x = #[I x.1.1, .agg #[I x.1.2.b, I x.1.2.d]] from rfl, zip_two]
        simp only [List.setIfInBounds_toArray, List.set_cons_succ, List.set_cons_zero]
        gi_wp2_with fail
        refine hK3 _ _ ((Moves.refl W).alloc _) ((IInv.own _ _ _ _ _ w4.heap.size _ (by omega)).alloc _ hI) ⟨W.heap.size, fun i => #[undef, u1, undef, undef, undef, undef, undef, undef, .pointer (some ⟨w2.heap.size, 0, none⟩), u9, undef, u11, u12, u13, u14, u15, u16, u17, u18, u19, u20, u21, u22, I (l.rows - 1), I k, u25, u26, u27, u28, u29, u30, u31, .pointer (some ⟨wr.heap.size + 1 + 1 + 1, 0, none⟩), .tuple #[.bool true, .agg #[I s.b, I s.d], .bool true], .bool true, .tuple #[.agg #[I s.b, I s.d], .bool true], .agg #[I s.b, I s.d], .agg #[I l.boards, I l.rows, .slice ha l.hooks.length hc, .slice pa l.patches.length pc, .slice (some ⟨g, 0, none⟩) l.rows.toNat l.rows.toNat], I k, .agg #[I s.b, I s.d], .func (.func 143) #[] #[.pointer (some ⟨hb, 0, none⟩), .pointer (some ⟨sb, 0, none⟩)], I x.1.1, .agg #[I x.1.2.b, I x.1.2.d], u43, u44, u45, u46, u47, u48, u49, u50, u51, u52, u53, u54, u55, u56, u57, u58, u59, u60].getD i undef, hm.size, Box.new _ _ _, rfl⟩
      case body =>
        rintro l' pre x a' W hm hI ⟨t10, u, ht, hx10, rfl⟩ hlen
        obtain ⟨γ3, i1, i2, i3⟩ := hI
        have hm4 : Moves (fun b => b = w.heap.size + 1 + 1 ∨ b = wr.heap.size + 1 ∨ b = wr.heap.size + 1 + 1 + 1) w2 W := (((hm3.alloc _).trans (Moves.of_below (Bs := fun _ => False) hb4) (fun _ _ h => h.elim)).weaken (fun _ _ h => .inr (.inr h))).trans hm (fun _ _ h => by rcases h with h | h <;> simp [h])
        have v7 := hm4.box t7 (by first | omega | (intro hh; simp only [Value.ownBlock, Option.some.injEq, reduceCtorEq] at hh; omega) | (intro hh; rcases hh with hh | hh | hh <;> omega))
        have v6 := hm4.box t6 (by first | omega | (intro hh; simp only [Value.ownBlock, Option.some.injEq, reduceCtorEq] at hh; omega) | (intro hh; rcases hh with hh | hh | hh <;> omega))
        have vb := hm4.box tb (by first | omega | (intro hh; simp only [Value.ownBlock, Option.some.injEq, reduceCtorEq] at hh; omega) | (intro hh; rcases hh with hh | hh | hh <;> omega))
        have x7 := v7.cell 0 rfl
        have x6 := v6.cell 0 rfl
        have xb := fun i c h => vb.cell i (c := c) h
        have xb0 := xb 0 _ rfl
        have xb1 := xb 1 _ rfl
        have xb2 := xb 2 _ rfl
        have xb3 := xb 3 _ rfl
        have x10 := hx10.cell 0 rfl
        have x11 := hx10.cell 1 rfl
        have xg := i2.cell 0 rfl
        have xf := i2.free 0
        clear xb y6 y7
        have hW1 := hm.size
        by_cases hon : onL l x.1.2 = true
        · gi_wp2_with (first
            | (refine ⟨trivial, ?_⟩; gi_at_call 48; refine (CallsIn.inRound l' (callsIn_wide.2 (on_any l x.1.2 ha pa hc pc _))).mono ?_; rintro e w5 ⟨rfl, hb5⟩
               have n7 := (v7.later hb5).cell 0 rfl
               have n10 := (hx10.later hb5).cell 0 rfl
               have n11 := (hx10.later hb5).cell 1 rfl
               obtain ⟨m5, hm5, hP5⟩ := i1.later hb5)
            | ((with_reducible show wpListIn _ _ _ _ _ (⟨_, Op.mapUpdate _ _ _ _, _, _, _, _⟩ :: _) _ _); (refine wpListIn_updateM rfl _ _ _ 132 rfl _ _ rfl goodSt _ rfl hm5 (x.1.2) rfl (()) rfl ?_); intro w6 hMw6 hvw6 hzw6))
          refine ⟨(Moves.of_below hb5).trans hvw6 (fun _ _ h => .inr h), γ3, ⟨_, hMw6, fun t => ?_⟩, hvw6.box (i2.later hb5) (by first | omega | (intro hh; simp only [Value.ownBlock, Option.some.injEq, reduceCtorEq] at hh; omega) | (intro hh; rcases hh with hh | hh | hh <;> omega)), i3.congr (by simp [hon])⟩
          by_cases e : t = x.1.2
          · subst e; simp [upd, hon]
          · simp [upd, e, hP5, Ne.symm e]
        · simp only [Bool.not_eq_true] at hon
          gi_wp2_with (first
            | (refine ⟨trivial, ?_⟩; gi_at_call 48; refine (CallsIn.inRound l' (callsIn_wide.2 (on_any l x.1.2 ha pa hc pc _))).mono ?_; rintro e w5 ⟨rfl, hb5⟩
               have n6 := (v6.later hb5).cell 0 rfl
               have ng := (i2.later hb5).cell 0 rfl
               have nf := (i2.later hb5).free 0
               have hz5 : w.heap.size + 1 + 1 < w5.heap.size := by have := hb5.size; omega)
            | (refine ⟨trivial, ?_⟩; gi_at_call 100; refine (CallsIn.inRound l' (callsIn_wide.2 (least_two γ3 (k + 1) _ _ (by simp [go_sem]) (by simp [go_sem])))).mono ?_; rintro e w6 ⟨rfl, rfl⟩))
          refine ⟨((Moves.of_below hb5).set (fun _ => .inl rfl)).alloc _, _, (((i1.later hb5).set (by omega)).alloc _).congr (fun t => ?_), (((i2.later hb5).set 0 _).alloc _), (i3.add k).congr fun j => ?_⟩
          · refine or_congr Iff.rfl (and_congr_right fun ht => ?_)
            constructor
            · rintro ⟨y, hy, rfl⟩; exact ⟨y, by simp [hy], rfl⟩
            · rintro ⟨y, hy, rfl⟩
              rcases List.mem_append.1 hy with hy | hy
              · exact ⟨y, hy, rfl⟩
              · rw [List.mem_singleton.1 hy, hon] at ht; cases ht
          · rw [or_assoc]
            refine or_congr Iff.rfl ⟨?_, ?_⟩
            · rintro (⟨rfl, y, hy, ho⟩ | rfl)
              · exact ⟨rfl, y, by simp [hy], ho⟩
              · exact ⟨rfl, x, by simp, hon⟩
            · rintro ⟨rfl, _⟩; exact .inr rfl
      case done =>
        rintro D xs W hD hmD hS ⟨γ3, i1, i2, i3⟩ hk
        go_wp2_with fail
        have hRs := SS.out.sub s hs
        have hlen : (ls2.filter (fun x => decide (x ≠ s))).length < n2 := by
          rw [hn2]; exact List.length_filter_lt_length_iff_exists.2 ⟨s, hs, by simp⟩
        have hm3W : Moves (fun b => b = w.heap.size + 1 + 1 ∨ b = wr.heap.size + 1) w3 W := (((Moves.refl w3).alloc _).trans (Moves.of_below (Bs := fun _ => False) hb4) (fun _ _ h => h.elim)).trans hmD (fun _ _ h => h)
        have hm4 : Moves (fun b => b = w.heap.size + 1 + 1 ∨ b = wr.heap.size + 1 ∨ b = wr.heap.size + 1 + 1 + 1) w2 W := (hm3.weaken (Bs' := fun b => b = w.heap.size + 1 + 1 ∨ b = wr.heap.size + 1 ∨ b = wr.heap.size + 1 + 1 + 1) (fun _ _ h => .inr (.inr h))).trans hm3W (fun _ _ h => by rcases h with h | h <;> simp [h])
        have hg0 : bm ≠ w.heap.size + 1 + 1 := hm.no_box RR.out.γb
        refine Handed.intro _ hlen (HJ2.out _ _ _ ?_)
        refine ⟨ls2.filter (fun x => decide (x ≠ s)), γ3, D :: Ds, ?_⟩
        (repeat apply Exists.intro)
        refine ⟨⟨rfl, ?_⟩, ?_, rfl⟩
        · refine ⟨hW3.moves hm3W (by first | omega | (intro hh; simp only [Value.ownBlock, Option.some.injEq, reduceCtorEq] at hh; omega) | (intro hh; rcases hh with hh | hh | hh <;> omega)) (by first | omega | (intro hh; simp only [Value.ownBlock, Option.some.injEq, reduceCtorEq] at hh; omega) | (intro hh; rcases hh with hh | hh | hh <;> omega)), i1.congr fun t => ?_, i2, i3.congr fun j => ?_, SS.out.mv.trans hm4 (fun _ _ h => h), fun s' hs' => SS.out.sub s' (List.mem_filter.1 hs').1⟩
          · rw [← and_or_left]
            refine and_congr_right fun _ => ?_
            rw [seen_iff hS (fun u => u = t), ← left_iff hRs (fun s' => t ∈ stepsOf l k s')]
            simp
          · rw [or_assoc, ← and_or_left, seen_iff hS (fun u => onL l u = false), left_iff hRs (fun s' => ∃ t ∈ stepsOf l k s', onL l t = false)]
        · refine HDs.out.push (HDs.out.moves hm4 fun d hd => ?_) (by first | omega | (simp only [World.size_alloc]; omega) | (simp; done) | (simp; omega)) (by first | omega | (simp only [World.size_alloc]; omega) | (simp; done) | (simp; omega)) hk
          have d1 := HDs.out.no_box SS.out.γb d hd
          have d2 := HDs.out.no_set SS.out.next d hd
          have d3 := HDs.out.no_walk SS.out.walk d hd
          intro hh; rcases hh with hh | hh | hh <;> omega
      case stop => exact fun _ _ _ _ _ _ _ h => h.elim
  · have yg := R.γb.cell 0 rfl
    have yf := R.γb.free 0
    have hke : k + 1 = l.rows.toNat := by omega
    have RR := Lib.hid R
    have HDs := Lib.hid hDs
    clear R hDs
    go_wp2_with fail
    go_region
    go_wp2_with fail
    have xg : Box (wr.setCell ⟨w.heap.size + 1 + 1, 0, none⟩ (I γ)).drew (w.heap.size + 1 + 1) [I γ] := (RR.out.γb.set 0 (I γ)).drew
    have hmv : Moves (fun b => b = w.heap.size + 1 + 1) wr (wr.setCell ⟨w.heap.size + 1 + 1, 0, none⟩ (I γ)).drew := ((Moves.refl (Bs := fun b => b = w.heap.size + 1 + 1) wr).set (fun _ => rfl)).drew
    refine ⟨Ds, rfl, ?_, fun w' hw => ⟨.tuple #[.slice (some ⟨g4, 0, none⟩) l.rows.toNat cap4, I γ], ?_, g4, cap4, ms, γ, rfl, ?_⟩⟩
    · exact HDs.out.moves hmv (HDs.out.no_box RR.out.γb)
    · have yc := (hw.box xg).cell 0 rfl
      simp [results, Tryz.results54, go_sem, yc]
    · have hr := (RR.out.row.moves hmv (by have := RR.out.row.ge; omega)).wiped hw
      rw [hke] at hr
      refine ⟨RR.out.len.trans hke, hr.low (by have := RR.out.row.ge; omega), fun j hj => ?_, RR.out.gut.congr (fun j => ?_), hw.below (RR.out.below.trans (Moves.below hmv RR.out.below.size (fun i hi => by omega))) (Nat.le_refl _)⟩
      · have h1 := RR.out.sets j hj
        exact ⟨h1.1, (h1.2.moves hmv (h1.2.no_box RR.out.γb)).wiped hw⟩
      · constructor <;> rintro ⟨h1, h2⟩ <;> exact ⟨by omega, h2⟩
end Go.Proofs.YthpkgabckklojaaGreat

/-
  DERIVED: THE SHELF's CONTRACTS AT THIS DUMP, IN PLAIN WORDS (tools/lay-plain.mjs out of 'TryShelf.lean', which tools/lay-shelf.mjs wrote): THE SAME DECLARATIONS UNDER THE SAME NAMES: 'import', 'namespace', 'open', 'def', 'theorem' AND NOTHING ELSE: no command of the shelf's: FOR A HAND-IN. Each laying: the table of numbers ('.._ren') and one theorem, a field a fact of the dump's own or the kernel's comparison; each contract: ONE APPLICATION.
-/
namespace Go.Proofs.YthpkgabckklojaaGreat
open Go.Shelf Go.Proofs
def Tryz.sortSt_ren : Go.Shelf.Ren := ⟨fun | 6 => 102 | 15 => 124 | 14 => 144 | 28 => 173 | 29 => 174 | 20 => 193 | 21 => 194 | 22 => 195 | 23 => 196 | 24 => 197 | 25 => 198 | 26 => 199 | 27 => 200 | 46 => 225 | 47 => 216 | 48 => 217 | 49 => 226 | 50 => 227 | 57 => 233 | n => n, fun | 22 => 40 | 24 => 49 | 25 => 210 | 3 => 3 | 39 => 234 | 0 => 0 | 53 => 283 | 55 => 285 | 4 => 4 | 46 => 276 | 45 => 275 | 50 => 280 | 5 => 5 | 9 => 9 | 66 => 300 | 70 => 304 | 76 => 313 | 77 => 270 | n => n, fun | n => n⟩
theorem Tryz.sortSt : Go.Proofs.SlLaysF0.n6 Tryz.prog Tryz.sortSt_ren := {
  mixed := by kernel_rfl
  f6 := ⟨Tryz.f102.name, by decide, Tryz.func102.trans (congrArg some (by kernel_rfl))⟩
  f14 := ⟨Tryz.f144.name, by decide, Tryz.func144.trans (congrArg some (by kernel_rfl))⟩
  f15 := Tryz.func124.trans (congrArg some (by kernel_rfl))
  f20 := ⟨Tryz.f193.name, by decide, Tryz.func193.trans (congrArg some (by kernel_rfl))⟩
  f21 := ⟨Tryz.f194.name, by decide, Tryz.func194.trans (congrArg some (by kernel_rfl))⟩
  f22 := ⟨Tryz.f195.name, by decide, Tryz.func195.trans (congrArg some (by kernel_rfl))⟩
  f23 := ⟨Tryz.f196.name, by decide, Tryz.func196.trans (congrArg some (by kernel_rfl))⟩
  f24 := ⟨Tryz.f197.name, by decide, Tryz.func197.trans (congrArg some (by kernel_rfl))⟩
  f25 := ⟨Tryz.f198.name, by decide, Tryz.func198.trans (congrArg some (by kernel_rfl))⟩
  f26 := ⟨Tryz.f199.name, by decide, Tryz.func199.trans (congrArg some (by kernel_rfl))⟩
  f27 := ⟨Tryz.f200.name, by decide, Tryz.func200.trans (congrArg some (by kernel_rfl))⟩
  f28 := Tryz.func173.trans (congrArg some (by kernel_rfl))
  f29 := Tryz.func174.trans (congrArg some (by kernel_rfl))
  f46 := ⟨Tryz.f225.name, by decide, Tryz.func225.trans (congrArg some (by kernel_rfl))⟩
  f47 := Tryz.func216.trans (congrArg some (by kernel_rfl))
  f48 := Tryz.func217.trans (congrArg some (by kernel_rfl))
  f49 := ⟨Tryz.f226.name, by decide, Tryz.func226.trans (congrArg some (by kernel_rfl))⟩
  f50 := ⟨Tryz.f227.name, by decide, Tryz.func227.trans (congrArg some (by kernel_rfl))⟩
  f57 := ⟨Tryz.f233.name, by decide, Tryz.func233.trans (congrArg some (by kernel_rfl))⟩
  t0 := Tryz.underlying0
  a0 := Tryz.isAgg0
  z0 := Tryz.sizeOf0
  v0 := Tryz.zeroValue0
  t3 := Tryz.underlying3
  a3 := Tryz.isAgg3
  z3 := Tryz.sizeOf3
  v3 := Tryz.zeroValue3
  t4 := Tryz.underlying4
  a4 := Tryz.isAgg4
  z4 := Tryz.sizeOf4
  v4 := Tryz.zeroValue4
  t5 := Tryz.underlying5
  a5 := Tryz.isAgg5
  z5 := Tryz.sizeOf5
  v5 := Tryz.zeroValue5
  t9 := Tryz.underlying9
  a9 := Tryz.isAgg9
  z9 := Tryz.sizeOf9
  v9 := Tryz.zeroValue9
  t22 := Tryz.underlying40
  a22 := Tryz.isAgg40
  z22 := Tryz.sizeOf40
  v22 := Tryz.zeroValue40
  t25 := Tryz.underlying210
  a25 := Tryz.isAgg210
  z25 := Tryz.sizeOf210
  v25 := Tryz.zeroValue210
  t39 := Tryz.underlying234
  a39 := Tryz.isAgg234
  z39 := Tryz.sizeOf234
  v39 := Tryz.zeroValue234
  t45 := Tryz.underlying275
  a45 := Tryz.isAgg275
  z45 := Tryz.sizeOf275
  v45 := Tryz.zeroValue275
  t46 := Tryz.underlying276
  a46 := Tryz.isAgg276
  z46 := Tryz.sizeOf276
  v46 := Tryz.zeroValue276
  t50 := Tryz.underlying280
  a50 := Tryz.isAgg280
  z50 := Tryz.sizeOf280
  v50 := Tryz.zeroValue280
  t53 := Tryz.underlying283
  a53 := Tryz.isAgg283
  z53 := Tryz.sizeOf283
  v53 := Tryz.zeroValue283
  t55 := Tryz.underlying285
  a55 := Tryz.isAgg285
  z55 := Tryz.sizeOf285
  v55 := Tryz.zeroValue285
  t66 := Tryz.underlying300
  a66 := Tryz.isAgg300
  z66 := Tryz.sizeOf300
  v66 := Tryz.zeroValue300
  t70 := Tryz.underlying304
  a70 := Tryz.isAgg304
  z70 := Tryz.sizeOf304
  v70 := Tryz.zeroValue304
  t76 := Tryz.underlying313
  a76 := Tryz.isAgg313
  z76 := Tryz.sizeOf313
  v76 := Tryz.zeroValue313
  t77 := Tryz.underlying270
  a77 := Tryz.isAgg270
  z77 := Tryz.sizeOf270
  v77 := Tryz.zeroValue270 }
end Go.Proofs.YthpkgabckklojaaGreat

/- The walk of package path: ahead, sorted. -/
namespace Go.Proofs.YthpkgabckklojaaGreat
open Go.RowKit Go.Shelf Go.Proofs Go.Lib Go.Sort

def orOf (x y : Int) : Int := if x = 0 then y else x
theorem Or_two (x y : Int) (b : Nat) (w : World) (h0 : w.cell? ⟨b, 0, none⟩ = some (I x)) (h1 : w.cell? ⟨b, 1, none⟩ = some (I y)) :
    Calls Tryz.prog 80 #[.slice (some ⟨b, 0, none⟩) 2 2] w fun e w' => e = .returned (I (orOf x y)) ∧ w = w' := by
  go_enter Tryz.func80, Tryz.ntmps80
  go_wp2
  go_loop [8] (fun i => i = I 0 ∨ (i = I 1 ∧ Hid (x = 0)) ∨ (i = I 2 ∧ Hid (x = 0 ∧ y = 0))) (fun i => 2 - (intOf i).toNat)
  case atStart => exact .inl rfl
  case round =>
    rcases hrel with rfl | ⟨rfl, hz⟩ | ⟨rfl, hz⟩
    · by_cases hx : x = 0
      · go_wp2
        go_round
        case rel => exact .inr (.inl ⟨by go_num, hx⟩)
        case measure => simp [intOf]
      · go_wp2
        go_ret
        exact ⟨by simp [orOf, hx], rfl⟩
    · by_cases hx : y = 0
      · go_wp2
        go_round
        case rel => exact .inr (.inr ⟨by go_num, hz.out, hx⟩)
        case measure => simp [intOf]
      · go_wp2
        go_ret
        exact ⟨by simp [orOf, hz.out], rfl⟩
    · go_wp2
      go_ret
      have h := hz.out
      exact ⟨by simp [orOf, h.1, h.2], rfl⟩

/-- The world has grown alone. -/
def Grown (W w' : World) : Prop := ∃ q os, w' = grow (W.drewN q) os
theorem Grown.refl (W : World) : Grown W W := ⟨0, #[], by simp [World.drewN]⟩
theorem Grown.alloc {W w : World} (h : Grown W w) (o : Obj) : Grown W (w.alloc o) := by
  obtain ⟨q, os, rfl⟩ := h
  exact ⟨q, os ++ #[o], by rw [alloc_eq_grow, grow_grow]⟩
theorem Grown.drew {W w : World} (h : Grown W w) : Grown W w.drew := by
  obtain ⟨q, os, rfl⟩ := h
  exact ⟨q + 1, os, rfl⟩

/-- The difference by which states are sorted. -/
def aheadOf (s t : St) : Int := orOf (s.b - t.b) (s.d - t.d)
theorem ahead_any (s t : St) (w : World) (h1 : -1000 ≤ s.b ∧ s.b ≤ 1000 ∧ -5 ≤ s.d ∧ s.d ≤ 5) (h2 : -1000 ≤ t.b ∧ t.b ≤ 1000 ∧ -5 ≤ t.d ∧ t.d ≤ 5) :
    Calls Tryz.prog 103 #[.agg #[I s.b, I s.d], .agg #[I t.b, I t.d]] w fun e w' => e = .returned (I (aheadOf s t)) ∧ Grown w w' := by
  go_enter Tryz.func103, Tryz.ntmps103
  go_wp2_with (go_at_call 80; refine Calls.mono (Or_two (s.b - t.b) (s.d - t.d) _ _ (by simp [go_sem]) (by simp [go_sem])) ?_; rintro e w' ⟨rfl, rfl⟩)
  go_ret
  exact ⟨rfl, (((Grown.refl w).alloc _).alloc _).alloc _⟩
end Go.Proofs.YthpkgabckklojaaGreat

/- slices.SortFunc at states. -/
namespace Go.Proofs.YthpkgabckklojaaGreat
open Go.RowKit Go.Shelf Go.Proofs Go.Lib
open Go.Sort hiding Below

def okSt (s : St) : Prop := -1000 ≤ s.b ∧ s.b ≤ 1000 ∧ -5 ≤ s.d ∧ s.d ≤ 5
abbrev BSt := { s : St // okSt s }
instance : Inhabited BSt := ⟨⟨⟨0, 0⟩, by simp [okSt]⟩⟩
def encB (x : BSt) : List Value := encSt x.1
theorem ahead_less (s t : St) : decide (aheadOf s t < 0) = lessS s t := by
  unfold aheadOf orOf lessS
  by_cases h : s.b - t.b = 0
  · rw [if_pos h, decide_eq_decide]; omega
  · rw [if_neg h, decide_eq_decide]; omega
theorem lt_less (x y : BSt) : ltOf (fun x y : BSt => aheadOf x.1 y.1) x y = lessS x.1 y.1 := ahead_less _ _
theorem swoSt : SWO (ltOf fun x y : BSt => aheadOf x.1 y.1) where
  irrefl x := by rw [lt_less]; simp [lessS]
  trans x y z h1 h2 := by rw [lt_less] at *; simp [lessS] at *; omega
  ntrans x y z h1 h2 := by rw [lt_less] at *; simp [lessS] at *; omega

theorem sortWorldK_below {α : Type} [Inhabited α] (enc : α → List Value) (k B : Nat) (w : World) (g off n : Nat) (d : Array α) (os : Array Obj) (hg : B ≤ g) (hB : B ≤ w.heap.size) : Below B w (sortWorldK enc k w g off n d os) := by
  refine ⟨rfl, rfl, rfl, size_sortWorldK_c .., fun i hi => ?_⟩
  show ((w.heap.modify g _) ++ os)[i]? = w.heap[i]?
  rw [Array.getElem?_append_left (by simp; omega), Array.getElem?_modify, if_neg (by omega)]

theorem holds_of_row {w : World} {B g cap : Nat} {T : TypeId} {ds : List BSt} (h : Row w B T 2 g ds.length cap (ds.flatMap encB)) : HoldsK encB 2 w g 0 ds.toArray := by
  intro j hj
  rw [size_flatK, List.size_toArray] at hj
  have hi : j / 2 < ds.length := by omega
  rw [get_flatK _ _ _ _ (by simpa using hj), Nat.zero_add]
  refine ⟨h.cell j ?_, h.free j⟩
  have e := flatMap_get encB 2 (fun _ => rfl) ds (j / 2) (j % 2) ds[j / 2] (List.getElem?_eq_getElem hi) (Nat.mod_lt _ (by decide))
  rw [show j / 2 * 2 + j % 2 = j from by omega] at e
  rw [e, getElem!_pos ds.toArray (j / 2) (by simpa using hi)]
  have hl : j % 2 < (encB ds[j / 2]).length := by show j % 2 < 2; omega
  rw [List.getElem?_eq_getElem hl, getElem!_pos _ _ (by simpa using hl)]
  rfl

theorem cells_of_holds {w : World} {g : Nat} {d : Array BSt} (h : HoldsK encB 2 w g 0 d) : CellsAt w g 0 (d.toList.flatMap encB) := by
  intro i c hc
  have hl := (List.getElem?_eq_some_iff.1 hc).1
  rw [flatMap_len encB 2 (fun _ => rfl)] at hl
  have hi : i / 2 < d.toList.length := by omega
  have hi' : i / 2 < d.size := by simpa using hi
  have e := flatMap_get encB 2 (fun _ => rfl) d.toList (i / 2) (i % 2) d.toList[i / 2] (List.getElem?_eq_getElem hi) (Nat.mod_lt _ (by decide))
  rw [show i / 2 * 2 + i % 2 = i from by omega, hc] at e
  have h2 := (h.cell (i := i / 2) (c := i % 2) hi' (Nat.mod_lt _ (by decide))).1
  rw [show 0 + i / 2 * 2 + i % 2 = 0 + i from by omega] at h2
  rw [h2, getElem!_pos d (i / 2) hi']
  have hl2 : i % 2 < (encB d[i / 2]).length := by show i % 2 < 2; omega
  rw [getElem!_pos (encB d[i / 2]) _ hl2]
  rw [Array.getElem_toList, List.getElem?_eq_getElem hl2] at e
  exact e.symm

theorem enter_ahead (args : Array Value) (w : World) : (callFunc 103 args).run Tryz.prog w = .ok (.enter 103 args) w := by kernel_rfl

theorem sort_states {w : World} {B g cap : Nat} (ds : List BSt) (h : Row w B 49 2 g ds.length cap (ds.flatMap encB)) (hnd : ds.Nodup) (hB : B ≤ w.heap.size) (hs : ds.length ≤ 1000000) :
    Calls Tryz.prog 102 #[.slice (some ⟨g, 0, none⟩) ds.length cap, .func (.func 103) #[] #[]] w fun e w' => e = .returned (.tuple #[]) ∧
      ∃ ts : List BSt, ts.Perm ds ∧ ts.Pairwise (fun x y => lessS x.1 y.1 = true) ∧ CellsAt w' g 0 (ts.flatMap encB) ∧ Below B w w' := by
  have hcmp : CmpLays Tryz.prog 103 #[] encB 2 (fun x y => aheadOf x.1 y.1) g 0 ds.toArray.size w := fun m os dk hd x y => ahead_any x.1 y.1 _ x.2 y.2
  have hH := holds_of_row h
  have hcon := AnyQ.slices_SortFunc Tryz.sortSt 2 Tryz.isAgg49 Tryz.sizeOf49 encB (fun _ => rfl) (fun x v hv => by simp [encB, encSt] at hv; rcases hv with rfl | rfl <;> rfl) (fun x y => aheadOf x.1 y.1) swoSt 103 #[] g 0 cap ds.toArray w enter_ahead hcmp hH h.lt (by simp; omega)
  change Calls Tryz.prog 102 _ _ _ at hcon
  refine hcon.mono ?_
  rintro e w' ⟨rfl, d', n, os, ⟨hsz, _, hp⟩, hso, rfl⟩
  have hperm : d'.toList.Perm ds := by
    have e1 : d'.extract 0 ds.toArray.size = d' := by rw [← hsz]; simp
    rw [e1] at hp
    simpa using hp
  refine ⟨rfl, d'.toList, hperm, ?_, cells_of_holds (holdsK_sortWorldK encB 2 w g 0 n ds.toArray d' os h.lt hH hsz), sortWorldK_below _ _ _ _ _ _ _ _ _ h.ge hB⟩
  rw [List.pairwise_iff_getElem]
  intro i j hi hj hij
  have h1 := hso i j (Nat.zero_le _) hij (by simpa [hsz] using hj)
  rw [getElem!_pos d' i (by simpa using hi), getElem!_pos d' j (by simpa using hj), lt_less] at h1
  have hnd' : d'.toList.Nodup := hperm.nodup_iff.2 hnd
  have hne : d'.toList[i] ≠ d'.toList[j] := fun e => by have := (List.getElem_inj hnd').1 e; omega
  rw [Array.getElem_toList, Array.getElem_toList] at *
  have hne2 : d'[i].1 ≠ d'[j].1 := fun e => hne (Subtype.ext e)
  simp only [lessS, decide_eq_false_iff_not, decide_eq_true_eq] at h1 ⊢
  have : ¬ (d'[i].1.b = d'[j].1.b ∧ d'[i].1.d = d'[j].1.d) := fun ⟨a, b⟩ => hne2 (by cases hx : d'[i].1; cases hy : d'[j].1; simp_all)
  omega
end Go.Proofs.YthpkgabckklojaaGreat

/- The walk of package path: sorted. -/
namespace Go.Proofs.YthpkgabckklojaaGreat
open Go.RowKit Go.Shelf Go.Proofs

theorem nodup_lenP {α : Type} [DecidableEq α] : ∀ (xs ys : List α), xs.Nodup → (∀ x ∈ xs, x ∈ ys) → xs.length ≤ ys.length
  | [], ys, _, _ => Nat.zero_le _
  | x :: xs, ys, hn, hs => by
    have hx := hs x (by simp)
    have h1 := nodup_lenP xs (ys.erase x) (List.nodup_cons.1 hn).2 (fun y hy => (List.mem_erase_of_ne (fun e => by subst e; exact (List.nodup_cons.1 hn).1 hy)).2 (hs y (by simp [hy])))
    rw [List.length_erase_of_mem hx] at h1
    have := List.length_pos_of_mem hx
    simp; omega
theorem few_states (ls : List St) (hn : ls.Nodup) (hs : ∀ s ∈ ls, okSt s) : ls.length ≤ 22011 := by
  have h1 : (ls.map fun s => ((s.b + 1000) * 11 + (s.d + 5)).toNat).Nodup := by
    rw [List.Nodup, List.pairwise_map]
    refine List.Pairwise.imp_of_mem (fun {a b} ha hb hne e => hne ?_) hn
    obtain ⟨a1, a2, a3, a4⟩ := hs a ha
    obtain ⟨b1, b2, b3, b4⟩ := hs b hb
    have : a.b = b.b ∧ a.d = b.d := by omega
    cases a; cases b; simp_all
  have := nodup_lenP _ (List.range 22011) h1 (fun x hx => by
    obtain ⟨s, hsm, rfl⟩ := List.mem_map.1 hx
    obtain ⟨a1, a2, a3, a4⟩ := hs s hsm
    rw [List.mem_range]; omega)
  simpa using this

theorem elemSt : ElemOf Tryz.prog 40 49 2 16 := .mk' (z := .agg #[I 0, I 0]) Tryz.underlying40 (by kernel_rfl) rfl (by decide) (by decide)

/-- Of new memory. -/
def NewSl (B : Nat) (u : Value) : Prop := ∀ a n cap, u = .slice (some a) n cap → B ≤ a.block
set_option maxRecDepth 100000 in
set_option maxHeartbeats 1000000 in
theorem sorted_any (b : Nat) (P : St → Prop) (w : World) (hS : SetIs w b P) (hP : ∀ t, P t → okSt t) :
    Calls Tryz.prog 55 #[.map (some b)] w fun e w' => ∃ (ts : List St) (v : Value), e = .returned v ∧ SlOf encSt w' v ts ∧ (∀ t, t ∈ ts ↔ P t) ∧ ts.Pairwise (fun x y => lessS x y = true) ∧ NewSl w.heap.size v ∧ Below w.heap.size w w' := by
  obtain ⟨m, hm, hmP⟩ := hS
  have hlt := hm.lt
  have HmP := Lib.hid hmP
  have HP := Lib.hid hP
  clear hmP hP
  go_enter Tryz.func55, Tryz.ntmps55
  go_wp2_with (
     ((with_reducible show wpList _ _ _ (⟨_, Op.range _ _, _, _, _, _⟩ :: _) _ _); (refine wpList_rangeM rfl _ 132 rfl _ _ rfl goodSt.inj _ rfl hm ?_); intro ls w1 hW hN hls hbw1 hz1)
     have HN := Lib.hid hN
     have Hls := Lib.hid hls
     clear hN hls)
  have hfew : ls.length ≤ 22011 := few_states ls HN.out (fun s hs => HP.out s ((HmP.out s).1 ((Hls.out s).1 hs)))
  show Code.wp _ _ _ ⟨#[.map (some b), undef, .slice none 0 0, undef, .map (some b), .pointer (some ⟨w.heap.size, 0, none⟩), undef, undef, undef, undef, undef, undef, undef, undef, undef, undef, undef], []⟩ _
  go_loopg [2] (ls.length) (fun n v W => ∃ (ls2 : List St) (ds : List BSt), n = ls2.length ∧ WalkIs W b w.heap.size ekSt (fun _ : Unit => .bool true) m ls2 ∧ W.ownsRow (w.heap.size + 1) 49 2 v ds.length (ds.flatMap encB) ∧ ds.Nodup ∧
    (∀ x ∈ ds, P x.1 ∧ x.1 ∉ ls2) ∧ (∀ t, P t → t ∈ ls2 ∨ ∃ h, (⟨t, h⟩ : BSt) ∈ ds) ∧ (∀ t ∈ ls2, P t) ∧ Below w.heap.size w W ∧ w.heap.size < W.heap.size)
  case atStart => exact ⟨ls, [], rfl, hW, World.ownsRow_nil _ _ _ _, List.nodup_nil, by simp, fun t ht => .inl ((Hls.out t).2 ((HmP.out t).2 ht)), fun t ht => (HmP.out t).1 ((Hls.out t).1 ht), hbw1, by omega⟩
  case round =>
    obtain ⟨ls2, ds, rfl, hW2, ho, hnd, hd, hr, hp, hb2, hz2⟩ := hrel
    have HD := Lib.hid (And.intro hd (And.intro hr hp))
    have hdl : ds.length ≤ 22011 := by
      have := few_states (ds.map (·.1)) (by rw [List.Nodup, List.pairwise_map]; exact hnd.imp (fun h e => h (Subtype.ext e))) (fun s hs => by obtain ⟨x, _, rfl⟩ := List.mem_map.1 hs; exact x.2)
      simpa using this
    clear hd hr hp
    by_cases hne : ls2 = []
    · subst hne
      have hdn := fun ty => hW2.done (P := Tryz.prog) ty
      rcases ho.2 with ⟨rfl, h0⟩ | ⟨g, cap, cur, rfl, _⟩
      · have hno := fun W => AnyF.slices_SortFunc_none Tryz.sortSt none 0 (.func (.func 103) #[] #[]) W
        change ∀ W, Calls Tryz.prog 102 _ _ _ at hno
        go_wp2_with (go_at_call 102; refine Calls.mono (hno _) ?_; rintro e w' ⟨rfl, rfl⟩)
        go_ret
        have hds : ds = [] := List.eq_nil_of_length_eq_zero h0
        subst hds
        exact ⟨[], _, rfl, ⟨none, 0, rfl, ⟨Nat.le_refl _, by decide, fun _ => ⟨rfl, rfl⟩, fun h => absurd rfl h⟩⟩, fun t => ⟨by simp, fun h => by have := HD.out.2.1 t h; simp at this⟩, .nil, (fun a n cap h => (by have := (show (Value.slice none 0 0) = _ from h); cases this)), hb2⟩
      · rename_i hrest
        obtain ⟨hge, hk, hn, hc, hcs, _⟩ := hrest
        have hR : Row wr (w.heap.size + 1) 49 2 g ds.length cap (ds.flatMap encB) := ho
        have HR := Lib.hid hR
        clear ho hR hk hcs
        go_wp2_with (go_at_call 102; refine Calls.mono (sort_states ds HR.out hnd (by omega) (by omega)) ?_; rintro e w4 ⟨rfl, ts, hpm, hso, hce, hb4⟩)
        go_ret
        have hlen : (ts.map (·.1)).length = ds.length := by simp [hpm.length_eq]
        refine ⟨ts.map (·.1), _, rfl, ⟨some ⟨g, 0, none⟩, cap, by rw [hlen]; rfl, ⟨by rw [hlen]; exact hn, hc, fun h => (by cases h), fun _ => ⟨g, 0, rfl, Nat.lt_of_lt_of_le HR.out.lt hb4.size, ?_⟩⟩⟩, fun t => ?_, ?_, (fun a n cap h => (by cases h; show w.heap.size ≤ g; omega)), hb2.trans (hb4.mono (by omega))⟩
        · rw [List.flatMap_map]; exact hce
        · rw [List.mem_map]
          constructor
          · rintro ⟨x, hx, rfl⟩; exact (HD.out.1 x (hpm.mem_iff.1 hx)).1
          · intro h
            rcases HD.out.2.1 t h with h' | ⟨h1, h2⟩
            · simp at h'
            · exact ⟨⟨t, h1⟩, hpm.mem_iff.2 h2, rfl⟩
        · rw [List.pairwise_map]; exact hso
    · have ke : ∀ s : St, ekSt s = .agg #[I s.b, I s.d] := fun _ => rfl
      have HO := Lib.hid ho
      have HND := Lib.hid hnd
      clear ho hnd
      go_wp2_with (first
        | (((with_reducible show wpList _ _ _ (⟨_, Op.next _ _, _, _, _, _⟩ :: _) _ _); (refine wpList_nextM rfl _ rfl goodSt.inj _ _ rfl _ hW2 hne ?_); intro s u w3 hs hv hW3 hm3 hz3 hent)
           have ho3 := owns_moves HO.out hm3 (fun k hk => by have := owns_ge HO.out k hk; omega)
           have HO3 := Lib.hid ho3
           clear ho3)
        | ((at_builtin; (refine wpList_appendR rfl _ _ 40 rfl _ _ _ elemSt (w.heap.size + 1) (u2) (ds.length) (ds.flatMap encB) rfl ((HO3.out.alloc _).alloc _) _ _ ([I s.b, I s.d]) rfl rfl (Box.new' _ _ (by simp [hz3])) (by simp [Value.oneCell']) (by omega) (by first | omega | (simp only [World.size_alloc]; omega) | (simp; done)) ?_); intro g5 cap5 w5 hR5 hv5 hd5 hz5)))
      have hPs := HD.out.2.2 s hs
      have hok := HP.out s hPs
      have hon : ∀ k, u2.ownBlock = some k → w.heap.size + 1 ≤ k ∧ k < wr.heap.size := fun k hk => owns_ge HO.out k hk
      go_roundg ((ls2.filter (fun x => decide (x ≠ s))).length)
      case measure => exact List.length_filter_lt_length_iff_exists.2 ⟨s, hs, by simp⟩
      case rel =>
        have hlts := hW2.lt
        have hW5 : WalkIs w5 b w.heap.size ekSt (fun _ : Unit => .bool true) m (ls2.filter (fun x => decide (x ≠ s))) :=
          hW3.moves (((Moves.refl w3).alloc _ |>.alloc _).trans hv5 (fun _ _ h => h)) (fun h => by have := hon _ h; omega) (fun h => by have := hon _ h; omega)
        have hb3 : Below w.heap.size w w5 := (hb2.trans (hm3.below (by omega) (fun i hi => by omega))).trans ((((Below.refl _ _).alloc (by omega) _).alloc (by simp; omega) _).trans (hv5.below (by simp; omega) (fun i hi h => by have := hon _ h; omega)))
        refine ⟨_, ds ++ [⟨s, hok⟩], rfl, hW5, ?_, ?_, ?_, ?_, fun t ht => HD.out.2.2 t (List.mem_filter.1 ht).1, hb3, ?_⟩
        · have := hR5
          unfold Row at this
          simpa [encB, encSt] using this
        · refine List.nodup_append.2 ⟨HND.out, by simp, ?_⟩
          intro a ha c hc e
          rw [List.mem_singleton.1 hc] at e
          subst e
          exact (HD.out.1 _ ha).2 hs
        · intro x hx
          rcases List.mem_append.1 hx with hx | hx
          · exact ⟨(HD.out.1 x hx).1, fun h => (HD.out.1 x hx).2 (List.mem_filter.1 h).1⟩
          · rw [List.mem_singleton.1 hx]
            exact ⟨hPs, by simp⟩
        · intro t ht
          by_cases e : t = s
          · subst e; exact .inr ⟨hok, by simp⟩
          · rcases HD.out.2.1 t ht with h | ⟨h1, h2⟩
            · exact .inl (List.mem_filter.2 ⟨h, by simpa using e⟩)
            · exact .inr ⟨h1, by simp [h2]⟩
        · have := hb3.size; have := hW5.lt; omega
end Go.Proofs.YthpkgabckklojaaGreat

/- The walk of package path: Reach. -/
namespace Go.Proofs.YthpkgabckklojaaGreat
open Go.RowKit Go.Shelf Go.Proofs

theorem valid_start {l : La} {s : St} (he : startErr l s = 0) : Valid l ∧ isStart l s = true := by
  have hf : fault l = 0 := by
    unfold startErr at he; split at he
    · omega
    · simp_all
  refine ⟨fault_valid hf, ?_⟩
  cases h : isStart l s
  · simp [startErr, hf, h] at he
  · rfl

theorem Reach_err (l : La) (s : St) (row : Int) (ha pa : Option Addr) (hc pc : Nat) (w : World) (H : LaneAt w l ha hc pa pc) (he : startErr l s ≠ 0) :
    Calls Tryz.prog 16 #[.agg #[I l.boards, I l.rows, .slice ha l.hooks.length hc, .slice pa l.patches.length pc], .agg #[I s.b, I s.d], I row] w fun e w' => e = .returned (.tuple #[.slice none 0 0, .int .u8 0, I (startErr l s)]) ∧ Below w.heap.size w w' := by
  have hC := fun o1 o2 => started_err l s ha pa hc pc ((w.alloc o1).alloc o2) (H.below (((Below.refl _ _).alloc (Nat.le_refl _) _).alloc (by simp) _) (Nat.le_refl _)) he
  have HC := Lib.hid hC
  clear hC H
  go_enter Tryz.func16, Tryz.ntmps16
  go_wp2_with (go_at_call 44; refine Calls.mono (HC.out _ _) ?_; rintro e w1 ⟨rfl, hb1⟩
               have hbW : Below w.heap.size w w1 := Below.trans (by (repeat (first | assumption | exact Below.refl _ _ | refine Below.alloc ?_ (by first | omega | (simp only [World.size_alloc]; omega) | (simp; done) | (simp; omega)) _ | refine Below.setCell ?_ (by first | omega | (simp only [World.size_alloc]; omega) | (simp; done) | (simp; omega)) _))) (hb1.mono (by first | omega | (simp only [World.size_alloc]; omega) | (simp; done) | (simp; omega))))
  go_ret3
  exact ⟨rfl, hbW.alloc hbW.size _⟩

theorem Reach_row (l : La) (s : St) (row : Int) (ha pa : Option Addr) (hc pc : Nat) (w : World) (H : LaneAt w l ha hc pa pc) (he : startErr l s = 0) (hr : ¬ (0 ≤ row ∧ row ≤ l.rows - 1)) :
    Calls Tryz.prog 16 #[.agg #[I l.boards, I l.rows, .slice ha l.hooks.length hc, .slice pa l.patches.length pc], .agg #[I s.b, I s.d], I row] w fun e w' => e = .returned (.tuple #[.slice none 0 0, .int .u8 0, I 2]) ∧ Below w.heap.size w w' := by
  have hC := fun o1 o2 => started_ok l s ha pa hc pc ((w.alloc o1).alloc o2) (H.below (((Below.refl _ _).alloc (Nat.le_refl _) _).alloc (by simp) _) (Nat.le_refl _)) he
  have HC := Lib.hid hC
  have V := (valid_start he).1
  have r1 := V.r1
  have r2 := V.r2
  clear hC H
  go_enter Tryz.func16, Tryz.ntmps16
  go_wp2_with (first
    | (go_at_call 44; refine Calls.mono (HC.out _ _) ?_; rintro e w1 ⟨g, rfl, hg, hB, hb1⟩
       have x3 := (((Box.new w [I l.boards, I l.rows, .slice ha l.hooks.length hc, .slice pa l.patches.length pc] 47).alloc (.cells #[I s.b, I s.d] 49)).later hb1).cell 1 rfl
       have hbW : Below w.heap.size w w1 := Below.trans (by (repeat (first | assumption | exact Below.refl _ _ | refine Below.alloc ?_ (by first | omega | (simp only [World.size_alloc]; omega) | (simp; done) | (simp; omega)) _ | refine Below.setCell ?_ (by first | omega | (simp only [World.size_alloc]; omega) | (simp; done) | (simp; omega)) _))) (hb1.mono (by first | omega | (simp only [World.size_alloc]; omega) | (simp; done) | (simp; omega)))
       have hz1 := hb1.size
       simp only [World.size_alloc] at hz1
       have hlt : w.heap.size < w1.heap.size := by omega)
    | (go_at_call 53; refine Calls.mono (within_any _ _ _ _) ?_; rintro e w2 ⟨rfl, rfl⟩))
  go_ret3
  exact ⟨rfl, hbW.alloc hbW.size _⟩

/-- The verdict of a row. -/
structure RowVerdict (l : La) (s : St) (row : Nat) (ts : List St) (v : Int) : Prop where
  mem : ∀ t, t ∈ ts ↔ Rch l s row t
  sorted : ts.Pairwise (fun x y => lessS x y = true)
  sure : ts = [] → v = 2
  may : ts ≠ [] → (∃ j, j < row ∧ Gut l s j) → v = 1
  never : ts ≠ [] → ¬ (∃ j, j < row ∧ Gut l s j) → v = 0

theorem Reach_ok (l : La) (s : St) (row : Nat) (ha pa : Option Addr) (hc pc : Nat) (w : World) (H : LaneAt w l ha hc pa pc) (he : startErr l s = 0) (hr : (row : Int) < l.rows) :
    Calls Tryz.prog 16 #[.agg #[I l.boards, I l.rows, .slice ha l.hooks.length hc, .slice pa l.patches.length pc], .agg #[I s.b, I s.d], I row] w fun e w' => ∃ (ts : List St) (u : Value) (v : Int), e = .returned (.tuple #[u, .int .u8 v, I 0]) ∧ SlOf encSt w' u ts ∧ RowVerdict l s row ts v ∧ NewSl w.heap.size u ∧ Below w.heap.size w w' := by
  have hC := fun o1 o2 => started_ok l s ha pa hc pc ((w.alloc o1).alloc o2) (H.below (((Below.refl _ _).alloc (Nat.le_refl _) _).alloc (by simp) _) (Nat.le_refl _)) he
  have HC := Lib.hid hC
  obtain ⟨V, h0⟩ := valid_start he
  have r1 := V.r1
  have r2 := V.r2
  have b2 := V.b2
  have hon := onL_start h0
  have hd := start_d h0
  have hok : ∀ t, Rch l s row t → okSt t := fun t ht => by
    have h1 := Rch.on hon ht
    have h2 := Rch.d hd ht
    have h3 : 1 ≤ t.b ∧ t.b ≤ l.boards := by simpa [onL] using h1
    exact ⟨by omega, by omega, h2.1, h2.2⟩
  have HK := Lib.hid hok
  have H0 := Lib.hid h0
  have hq : (row : Int) ≤ l.rows - 1 := by omega
  clear hC H hok hon h0
  go_enter Tryz.func16, Tryz.ntmps16
  go_wp2_with (first
    | (go_at_call 44; refine Calls.mono (HC.out _ _) ?_; rintro e w1 ⟨g, rfl, hg, hB, hb1⟩
       have x3 := (((Box.new w [I l.boards, I l.rows, .slice ha l.hooks.length hc, .slice pa l.patches.length pc] 47).alloc (.cells #[I s.b, I s.d] 49)).later hb1).cell 1 rfl
       have y0 := ((Box.new' (w := w.alloc (.cells #[I l.boards, I l.rows, .slice ha l.hooks.length hc, .slice pa l.patches.length pc] 47)) [I s.b, I s.d] 49 (by simp)).later hb1).cell (b := w.heap.size + 1) 0 rfl
       have y1 := ((Box.new' (w := w.alloc (.cells #[I l.boards, I l.rows, .slice ha l.hooks.length hc, .slice pa l.patches.length pc] 47)) [I s.b, I s.d] 49 (by simp)).later hb1).cell (b := w.heap.size + 1) 1 rfl
       have hbW : Below w.heap.size w w1 := Below.trans (by (repeat (first | assumption | exact Below.refl _ _ | refine Below.alloc ?_ (by first | omega | (simp only [World.size_alloc]; omega) | (simp; done) | (simp; omega)) _ | refine Below.setCell ?_ (by first | omega | (simp only [World.size_alloc]; omega) | (simp; done) | (simp; omega)) _))) (hb1.mono (by first | omega | (simp only [World.size_alloc]; omega) | (simp; done) | (simp; omega)))
       have hz1 := hb1.size
       simp only [World.size_alloc] at hz1
       have hlt : w.heap.size < w1.heap.size := by omega
       have hlt1 : w.heap.size + 1 < w1.heap.size := by omega)
    | (go_at_call 53; refine Calls.mono (within_any _ _ _ _) ?_; rintro e w2 ⟨rfl, rfl⟩)
    | (go_at_call 54; refine Calls.mono (reached_any l s ha pa hc pc g _ (hB.later (by (repeat (first | assumption | exact Below.refl _ _ | refine Below.alloc ?_ (by first | omega | (simp only [World.size_alloc]; omega) | (simp; done) | (simp; omega)) _ | refine Below.setCell ?_ (by first | omega | (simp only [World.size_alloc]; omega) | (simp; done) | (simp; omega)) _)))) H0.out) ?_; rintro e w3 ⟨A, cap, ms, γ, rfl, R⟩
       have hrl : row < ms.length := by rw [R.len]; omega
       have hrn : row < l.rows.toNat := by omega
       have yr : w3.cell? ⟨A, row, none⟩ = some (.map (some ms[row])) := R.row.cell row (by simp [hrl])
       have hset := (R.sets row hrl).2
       have hgut : Hid (γ ≤ row ↔ ∃ j, j < row ∧ Gut l s j) := (R.gut.le row hr).trans ⟨fun ⟨j, h1, h2⟩ => ⟨j, h1, h2.2⟩, fun ⟨j, h1, h2⟩ => ⟨j, h1, by omega, h2⟩⟩
       have hb3 := R.below)
    | (go_at_call 55; refine Calls.mono (sorted_any _ (Rch l s row) w3 hset HK.out) ?_; rintro e w4 ⟨ts, u, rfl, ⟨a2, cap2, rfl, hsl⟩, q2, q3, hnw, hb4⟩
       have hbd := hsl.bd))
  all_goals
    have hs3 := hb3.size
    simp only [World.size_alloc] at hs3
    have hsz := hbW.size
    have hnF : NewSl w.heap.size (.slice a2 ts.length cap2) := fun a n cap h => by have := hnw a n cap h; omega
    have hbF : Below w.heap.size w w4 := hbW.trans ((((Below.refl _ w1).alloc hbW.size _).trans (hb3.mono (by simp only [World.size_alloc]; omega))).trans (hb4.mono (by omega)))
  · rename_i h
    have hts : ts = [] := by simpa using h
    go_ret3
    exact ⟨ts, _, 2, rfl, ⟨a2, cap2, rfl, hsl⟩, ⟨q2, q3, fun _ => rfl, fun h => absurd hts h, fun h => absurd hts h⟩, hnF, hbF⟩
  · rename_i h1 h2
    go_ret3
    exact ⟨ts, _, 1, rfl, ⟨a2, cap2, rfl, hsl⟩, ⟨q2, q3, fun e => by simp [e] at h1, fun _ _ => rfl, fun _ h => absurd (hgut.out.1 h2) h⟩, hnF, hbF⟩
  · rename_i h1 h2
    go_ret3
    exact ⟨ts, _, 0, rfl, ⟨a2, cap2, rfl, hsl⟩, ⟨q2, q3, fun e => by simp [e] at h1, fun _ h => by have := hgut.out.2 h; omega, fun _ _ => rfl⟩, hnF, hbF⟩
end Go.Proofs.YthpkgabckklojaaGreat

/- The walks of package path: hit, miss, valid. -/
namespace Go.Proofs.YthpkgabckklojaaGreat
open Go.RowKit Go.Shelf Go.Proofs

/-- A pocket is hit. -/
def hitsP (p : Pk) (arrived : Bool) (s : St) : Bool := arrived && inR s.b p.boards && inR s.d p.dirs

end Go.Proofs.YthpkgabckklojaaGreat
