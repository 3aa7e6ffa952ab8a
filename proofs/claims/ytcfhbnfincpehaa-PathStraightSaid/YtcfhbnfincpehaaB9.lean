/- Own texts, laid together: X20 X21 J12. Nothing is asked. -/
import Derived.Test.YtcfhbnfincpehaaB7
import Derived.Test.YtcfhbnfincpehaaB8
import Derived.Laws.MakeOwn
set_option linter.unusedSimpArgs false
set_option linter.unusedVariables false
/- Walks of package path: Shows. -/
namespace Go.Proofs.Ytcfhbnfincpehaa
open Go.RowKit Go.Shelf

/-- The turns that Shows finds: n rows before the last one. -/
def rollL (l : La) (en : Bool → St → Bool) : Nat → Int → St → List Int
  | 0, _, _ => []
  | n + 1, row, s => if onL l s = true then (match (turnsOf (hookOf l row s.b)).find? (fun u => canN l en n (row + 1) (nextS s u)) with | some u => u :: rollL l en n (row + 1) (nextS s u) | none => []) else []
theorem rollL_off {l : La} {en : Bool → St → Bool} {s : St} (h : onL l s = false) (n : Nat) (row : Int) : rollL l en n row s = [] := by cases n <;> simp [rollL, h]
theorem rollL_len (l : La) (en : Bool → St → Bool) : ∀ (n : Nat) (row : Int) (s : St), (rollL l en n row s).length ≤ n
  | 0, _, _ => by simp [rollL]
  | n + 1, row, s => by
    unfold rollL
    split
    · split
      · have := rollL_len l en n (row + 1) (nextS s (by assumption))
        rename_i u _
        have := rollL_len l en n (row + 1) (nextS s u)
        simp; omega
      · simp
    · simp
/-- They are a truth, that ends so. -/
theorem roll_truth {l : La} (V : Valid l) (en : Bool → St → Bool) : ∀ (n : Nat) (row : Int) (s : St), onL l s = true → canN l en n row s = true → ∃ over g, Truth l n row s (rollL l en n row s) over g ∧ (g = true → ∃ x, en false x = true) ∧ (g = false → ∃ x, over.getLast? = some x ∧ en true x = true)
  | 0, row, s, h1, h2 => ⟨[s], false, .last h1, (fun e => by cases e), fun _ => ⟨s, rfl, by simpa [canN, h1] using h2⟩⟩
  | n + 1, row, s, h1, h2 => by
    simp only [canN, h1, if_true, List.any_eq_true] at h2
    obtain ⟨x, hx, hc⟩ := h2
    obtain ⟨t, ht, rfl⟩ := step_mem hx
    cases hf : (turnsOf (hookOf l row s.b)).find? (fun u => canN l en n (row + 1) (nextS s u)) with
    | none =>
      have := List.find?_eq_none.1 hf t (mem_turnsOf.2 (by simpa [inR] using ht))
      rw [hc] at this; simp at this
    | some u =>
      have hu := List.find?_some hf
      have hm := List.mem_of_find?_eq_some hf
      have hi : inR u (hookOf l row s.b) = true := by simpa [inR] using mem_turnsOf.1 hm
      have er : rollL l en (n + 1) row s = u :: rollL l en n (row + 1) (nextS s u) := by simp [rollL, h1, hf]
      rw [er]
      cases hon : onL l (nextS s u)
      · rw [canN_off hon] at hu
        rw [rollL_off hon]
        exact ⟨[s], true, .off h1 hi hon, fun _ => ⟨_, hu⟩, fun e => by cases e⟩
      · obtain ⟨over, g, hT, ha, hb⟩ := roll_truth V en n (row + 1) _ hon hu
        refine ⟨s :: over, g, .on h1 hi hT, ha, fun e => ?_⟩
        obtain ⟨x, hx, hy⟩ := hb e
        exact ⟨x, by rw [List.getLast?_cons, hx]; rfl, hy⟩
theorem hsub_trans2 {A B C : List Chunk} (h1 : HSub A B) (h2 : HSub B C) : HSub A C := h1.trans h2
set_option maxRecDepth 100000 in
theorem roll_j (l : La) (p : Pk) (ha pa : Option Addr) (hc pc g bb bc bo br A F mb : Nat) (en : Bool → St → Bool) (V : Valid l) (eg : ∀ args w, (callFunc F args).run Try.prog w = .ok (.enter F args) w)
    (hE : ∀ (b : Bool) (s : St), Cv Try.prog F [.agg #[I p.boards.lo, I p.boards.hi, I p.dirs.lo, I p.dirs.hi], .bool b, .agg #[I s.b, I s.d]] KTrue (.bool (en b s))) :
    ∀ (n : Nat) (row : Int) (s : St) (m : Memo l en) (L : List Int) (v : Value), row + n = l.rows - 1 → 0 ≤ row → -5 ≤ s.d → s.d ≤ 5 → L.length ≤ row →
      Cx Try.prog 85 [I row, .agg #[I s.b, I s.d], pt bb, pt bc, pt bo, pt br] [mp mb ekSp vB m.1, bx bo [v], ow v 3 1 L.length (L.flatMap encI)]
        (KAnd (KBox bb [I l.boards, I l.rows, .slice ha l.hooks.length hc, .slice pa l.patches.length pc, .slice (some ⟨g, 0, none⟩) l.rows.toNat l.rows.toNat]) (KAnd (KBox bc [.func (.func 74) #[pt A] #[]]) (KAnd (KBox br [.func (.func 85) #[] #[pt bb, pt bc, pt bo, pt br]]) (KAnd (KBox A (aimCs l p ha hc pa pc g F mb)) (KBall l ha hc pa pc g)))))
        (fun _ : Memo l en × Value => .tuple #[]) (fun q => [mp mb ekSp vB q.1.1, bx bo [q.2], ow q.2 3 1 (L ++ rollL l en n row s).length ((L ++ rollL l en n row s).flatMap encI)]) (fun _ => KTrue) := by
  intro n
  induction n with
  | zero =>
    intro row s m L v hn h0 d1 d2 hLl
    have r2 := V.r2
    refine Cx_of Try.func85 rfl Try.ntmps85 rfl fun w0 M0 => ?_
    refine JC_seq ?_
    refine JC_region ?_
    refine JL_step rfl rfl rfl (jo_box rfl rfl) fun b6 => ?_
    refine JL_step rfl rfl rfl (jo_box rfl rfl) fun b7 => ?_
    refine JL_nil ?_
    refine JE_seq ?_
    refine JC_seq ?_
    refine JC_seq ?_
    refine JC_region ?_
    refine JL_dt rfl (det_loadK rfl Try.isAgg3 rfl) ?_
    refine JL_pd rfl (det_fieldAddr rfl fo_107_0) ?_
    refine JL_pd rfl (det_fieldAddr rfl fo_37_1) ?_
    refine JL_dt rfl (det_loadK rfl Try.isAgg3 rfl) ?_
    refine JL_pd rfl (det_sub rfl rfl ⟨by omega, by omega⟩) ?_
    refine JL_pd rfl (det_eql rfl rfl) ?_
    refine JL_pd rfl (det_move rfl) ?_
    -- stop: guard 6
    refine JL_join1 6 22 (.bool true) (fun hj => ?_) ?_
    · refine JL_split (d0 := 16) rfl (fun q1 => ?_) (fun q1 => ?_)
      · refine JL_skip rfl rfl q1 rfl ?_
        refine JL_skip rfl rfl q1 rfl ?_
        refine JL_skip rfl rfl q1 rfl ?_
        refine JL_skip rfl rfl q1 rfl ?_
        refine JL_skip rfl rfl q1 rfl ?_
        refine JL_pd rfl (det_pick_t rfl q1 rfl) ?_
        exact hj (by kernel_rfl) (stsub_consB rfl (by clear hj; first | rfl | (exfalso; simp at q1; omega)) stsub_nil)
      · refine JL_guard rfl rfl q1 ?_
        refine JL_pd rfl (det_fieldAddr rfl fo_107_0) ?_
        refine JL_guard rfl rfl q1 ?_
        refine JL_dt rfl (det_loadKA rfl Try.isAgg37 Try.sizeOf37 rfl rfl) ?_
        refine JL_guard rfl rfl q1 ?_
        refine JL_dt rfl (det_loadKA rfl Try.isAgg39 Try.sizeOf39 rfl rfl) ?_
        refine JL_guard rfl rfl q1 ?_
        refine JL_step rfl rfl rfl (jo_callv rfl rfl Try.call65 rfl (on_j l ha pa hc pc _)) fun _ => ?_
        refine JL_guard rfl rfl q1 ?_
        refine JL_pd rfl (det_not rfl) ?_
        refine JL_pd rfl (det_pick_f rfl q1 rfl) ?_
        exact hj (by kernel_rfl) (stsub_consB rfl (by clear hj; first | rfl | (exfalso; simp at q1; omega)) stsub_nil)
    refine JL_nil ?_
    refine JE_seq ?_
    refine JC_condT rfl rfl ?_
    refine JC_ret ?_
    refine JE_seq_ret ?_
    -- stop: out
    refine JE_out (.inl rfl) (m, v) (results0 Try.results85 ) rfl (by simp only [rollL, List.append_nil]; exact perm3 _ _ _) (fun _ _ => trivial)
  | succ n IH =>
    intro row s m L v hn h0 d1 d2 hLl
    have r2 := V.r2
    have hrw : ¬ row = l.rows - 1 := by omega
    have hLb : L.length ≤ 100 := by omega
    have hnil : L ++ ([] : List Int) = L := List.append_nil L
    refine Cx_of Try.func85 rfl Try.ntmps85 rfl fun w0 M0 => ?_
    refine JC_seq ?_
    refine JC_region ?_
    refine JL_step rfl rfl rfl (jo_box rfl rfl) fun b6 => ?_
    refine JL_step rfl rfl rfl (jo_box rfl rfl) fun b7 => ?_
    refine JL_nil ?_
    refine JE_seq ?_
    refine JC_seq ?_
    refine JC_seq ?_
    refine JC_region ?_
    refine JL_dt rfl (det_loadK rfl Try.isAgg3 rfl) ?_
    refine JL_pd rfl (det_fieldAddr rfl fo_107_0) ?_
    refine JL_pd rfl (det_fieldAddr rfl fo_37_1) ?_
    refine JL_dt rfl (det_loadK rfl Try.isAgg3 rfl) ?_
    refine JL_pd rfl (det_sub rfl rfl ⟨by omega, by omega⟩) ?_
    refine JL_pd rfl (det_eql rfl rfl) ?_
    refine JL_pd rfl (det_move rfl) ?_
    -- stop: guard 6
    refine JL_join1 6 22 (.bool (!onL l s)) (fun hj => ?_) ?_
    · refine JL_split (d0 := 16) rfl (fun q2 => ?_) (fun q2 => ?_)
      · refine JL_skip rfl rfl q2 rfl ?_
        refine JL_skip rfl rfl q2 rfl ?_
        refine JL_skip rfl rfl q2 rfl ?_
        refine JL_skip rfl rfl q2 rfl ?_
        refine JL_skip rfl rfl q2 rfl ?_
        refine JL_pd rfl (det_pick_t rfl q2 rfl) ?_
        exact hj (by kernel_rfl) (stsub_consB rfl (by clear hj; first | rfl | (simp only [hrw, q2, Bool.and_true, Bool.true_and, Bool.false_and, Bool.and_false, Bool.or_true, Bool.true_or, Bool.or_false, Bool.false_or, Bool.not_true, Bool.not_false]; done) | (simp [hrw, q2]; done) | (simp [hrw] at q2; done) | (simp [hrw, q2] <;> omega) | (exfalso; simp [hrw] at q2; omega) | (simp [q2] at hrw; done)) stsub_nil)
      · refine JL_guard rfl rfl q2 ?_
        refine JL_pd rfl (det_fieldAddr rfl fo_107_0) ?_
        refine JL_guard rfl rfl q2 ?_
        refine JL_dt rfl (det_loadKA rfl Try.isAgg37 Try.sizeOf37 rfl rfl) ?_
        refine JL_guard rfl rfl q2 ?_
        refine JL_dt rfl (det_loadKA rfl Try.isAgg39 Try.sizeOf39 rfl rfl) ?_
        refine JL_guard rfl rfl q2 ?_
        refine JL_step rfl rfl rfl (jo_callv rfl rfl Try.call65 rfl (on_j l ha pa hc pc _)) fun _ => ?_
        refine JL_guard rfl rfl q2 ?_
        refine JL_pd rfl (det_not rfl) ?_
        refine JL_pd rfl (det_pick_f rfl q2 rfl) ?_
        exact hj (by kernel_rfl) (stsub_consB rfl (by clear hj; first | rfl | (simp only [hrw, q2, Bool.and_true, Bool.true_and, Bool.false_and, Bool.and_false, Bool.or_true, Bool.true_or, Bool.or_false, Bool.false_or, Bool.not_true, Bool.not_false]; done) | (simp [hrw, q2]; done) | (simp [hrw] at q2; done) | (simp [hrw, q2] <;> omega) | (exfalso; simp [hrw] at q2; omega) | (simp [q2] at hrw; done)) stsub_nil)
    refine JL_nil ?_
    refine JE_seq ?_
    -- stop: cond
    refine JC_cond rfl (fun hon => ?_) (fun hon => ?_)
    · simp only [Bool.not_eq_true'] at hon
      refine JC_ret ?_
      refine JE_seq_ret ?_
      -- stop: out
      refine JE_out (.inl rfl) (m, v) (results0 Try.results85 ) rfl (by rw [rollL_off hon, hnil]; exact perm3 _ _ _) (fun _ _ => trivial)
    · simp only [Bool.not_eq_false'] at hon
      refine JC_skip ?_
      refine JE_seq ?_
      refine JC_seq ?_
      refine JC_region ?_
      refine JL_dt rfl (det_loadKA rfl Try.isAgg107 Try.sizeOf107 rfl rfl) ?_
      refine JL_dt rfl (det_loadK rfl Try.isAgg3 rfl) ?_
      refine JL_dt rfl (det_loadKA rfl Try.isAgg39 Try.sizeOf39 rfl rfl) ?_
      -- stop: op  3 t26 := (call (Call (value f66) (t23 t24 t25) (107 3 39)))   <0 1 2>   112
      refine JL_step rfl rfl rfl (jo_callx rfl rfl Try.call66 rfl (follow_j l row s ha pa hc pc g h0 (by omega) hon) ((List.Perm.refl _))) fun ⟨hb, sb⟩ => ?_
      refine JL_nil ?_
      refine JE_seq ?_
      refine JC_block ?_
      -- stop: rangeFunc
      have Hhk := hookOf_bd V row s.b
      have hlb : 1 ≤ s.b ∧ s.b ≤ l.boards := by simpa [onL] using hon
      have hb2 := V.b2
      refine JC_range (γ := Memo l en × Value × List Int) (β := Nat) rfl rfl rfl rfl enter_follow (perm3 (mp mb ekSp vB m.1) (bx bo [v]) (ow v 3 1 L.length (L.flatMap encI))) (encTl (hk := hookOf l row s.b) (s := s))
        (fun xs => xs.map (fun x => x.1.1) = turnsOf (hookOf l row s.b)) (fun pre => ∃ k, k ≤ (turnsOf (hookOf l row s.b)).length ∧ pre.map (fun x => x.1.1) = (turnsOf (hookOf l row s.b)).take k) (turnsOf (hookOf l row s.b)).length [hb, sb]
        (fun w hD _ => follow_stops (hookOf l row s.b) s hb sb w Hhk.1 Hhk.2.2 d1 d2 (by omega) (by omega) (BoxK.know (R := saysAll _) (b := hb) w hD) (BoxK.know (R := saysAll _) (b := sb) w hD)) ?_ (fun _ => rfl) ?_
        (fun pre q => q.2 = (v, L) ∧ ∀ x ∈ pre, canN l en n (row + 1) x.1.2 = false) (fun cd pre q => cd = .ret ∧ ∃ pre0 x, pre = pre0 ++ [x] ∧ (∀ y ∈ pre0, canN l en n (row + 1) y.1.2 = false) ∧ canN l en n (row + 1) x.1.2 = true ∧ q.2.2 = L ++ x.1.1 :: rollL l en n (row + 1) x.1.2)
        (fun q => [mp mb ekSp vB q.1.1, bx bo [q.2.1], ow q.2.1 3 1 q.2.2.length (q.2.2.flatMap encI)]) (m, v, L) ?_ rfl ?_ ?_ (fun x t => [(9, pt t), (8, I x.1.1), (2, pt bb), (3, pt bc), (4, pt bo), (5, pt br), (6, pt b6), (7, pt b7)]) (fun x t => [bx t [I x.1.2.b, I x.1.2.d]]) ?_ ?_ ?_ ?_ ?_
      · intro b hb'; simp only [List.mem_cons, List.not_mem_nil, or_false] at hb'; rcases hb' with rfl | rfl
        · exact ⟨bx b [I (hookOf l row s.b).lo, I (hookOf l row s.b).hi], by simp, rfl⟩
        · exact ⟨bx b [I s.b, I s.d], by simp, rfl⟩
      · show ∀ p ∈ [27, 28], p < 43
        decide
      · exact ⟨rfl, by simp⟩
      · rintro pre ⟨m1, v1, L1⟩ ⟨hi, _⟩ c hc b hb
        cases hi
        simp only [List.mem_cons, List.not_mem_nil, or_false] at hc
        rcases hc with rfl | rfl | rfl
        · exact ⟨mp mb ekSp vB m.1, by simp, hb⟩
        · exact ⟨bx bo [v], by simp, hb⟩
        · exact ⟨ow v 3 1 L.length (L.flatMap encI), by simp, hb⟩
      · rintro cd pre ⟨m1, v1, L1⟩ _ c hc
        simp only [List.mem_cons, List.not_mem_nil, or_false] at hc
        rcases hc with rfl | rfl | rfl
        · exact .inr fun b hb => ⟨mp mb ekSp vB m.1, by simp, hb⟩
        · exact .inl (bx_cellish _ _)
        · exact .inl (ow_cellish _ _ _ _ _)
      · intro x t c hc; simp only [List.mem_cons, List.not_mem_nil, or_false] at hc; subst hc; exact bx_cellish _ _
      · intro l' x W K0 hK0
        refine JC_seq ?_
        refine JC_region ?_
        refine JL_pd rfl (det_assign rfl) ?_
        refine JL_nil ?_
        refine JE_seq ?_
        refine JC_region ?_
        refine JL_step rfl rfl rfl (jo_alloc0 Try.zeroValue39 rfl) fun b9 => ?_
        refine JL_step0 rfl rfl (jo_store rfl rfl rfl (by first | (simp only [splice_norm]; done) | (simp only [splice_norm]; rfl) | rfl) Try.sizeOf39 rfl rfl) fun _ => ?_
        refine JL_nil ?_
        -- stop: end
        exact JE_asg (hK0 b9) (stsub_cons rfl (stsub_cons rfl (stsub_cons rfl (stsub_cons rfl (stsub_cons rfl (stsub_cons rfl (stsub_cons rfl (stsub_cons rfl stsub_nil)))))))) (hsub_cons hsub_nil) (fun _ h => trivial)
      · rintro l' pre x ⟨m1, v1, L1⟩ t W K1 QX ⟨hi1, hno⟩ hlen hK hX
        cases hi1
        dsimp only [List.cons_append, List.nil_append] at hK hX ⊢
        have hdx : -5 ≤ x.1.2.d ∧ x.1.2.d ≤ 5 := by rw [x.2.2.2]; exact nextS_d _ _
        refine JC_block ?_
        refine JC_seq ?_
        refine JC_region ?_
        refine JL_dt rfl (det_loadK rfl Try.isAgg137 rfl) ?_
        refine JL_dt rfl (det_loadK rfl Try.isAgg3 rfl) ?_
        refine JL_pd rfl (det_add rfl rfl ⟨by omega, by omega⟩) ?_
        refine JL_dt rfl (det_loadKA rfl Try.isAgg39 Try.sizeOf39 rfl rfl) ?_
        -- stop: op  4 t33 := (call (Call (value t29) (t31 t32) (3 39)))   <0 2 3>   113
        refine JL_step rfl rfl rfl (jo_callx rfl rfl Try.call74 rfl (can_j l p ha pa hc pc g A F mb en V eg hE n (row + 1) x.1.2 m1 (by omega) (by omega) hdx.1 hdx.2) ((perm1 (mp mb ekSp vB m1.1)))) fun m2 => ?_
        refine JL_nil ?_
        refine JE_seq ?_
        -- stop: cond
        refine JC_cond rfl (fun hcan => ?_) (fun hcan => ?_)
        · refine JC_seq ?_
          refine JC_region ?_
          refine JL_dt rfl (det_loadK rfl Try.isAgg75 rfl) ?_
          refine JL_pd rfl (det_move rfl) ?_
          refine JL_step rfl rfl rfl (jo_buildSlice rfl (bsl_75_1_0 _)) fun b36 => ?_
          refine JL_step rfl rfl rfl (jo_append el_75 rfl rfl rfl rfl (by omega)) fun b37 => ?_
          refine JL_step0 rfl rfl (jo_store rfl rfl rfl (by first | (simp only [splice_norm]; done) | (simp only [splice_norm]; rfl) | rfl) Try.sizeOf75 rfl rfl) fun _ => ?_
          refine JL_nil ?_
          refine JE_seq ?_
          refine JC_seq ?_
          refine JC_region ?_
          refine JL_dt rfl (det_loadK rfl Try.isAgg147 rfl) ?_
          refine JL_dt rfl (det_loadK rfl Try.isAgg3 rfl) ?_
          refine JL_pd rfl (det_add rfl rfl ⟨by omega, by omega⟩) ?_
          refine JL_dt rfl (det_loadKA rfl Try.isAgg39 Try.sizeOf39 rfl rfl) ?_
          -- stop: op  4 t42 := (call (Call (value t38) (t40 t41) (3 39)))   <0 2 3>   115
          refine JL_step rfl rfl rfl (jo_callx rfl rfl Try.call85 rfl ((by have h := IH (row + 1) x.1.2 m2 (L ++ [x.1.1]) (.slice (some ⟨b37.1, 0, none⟩) (L.length + 1) b37.2) (by omega) (by omega) hdx.1 hdx.2 (by simp; omega); simp only [List.length_append, List.length_singleton, List.flatMap_append, List.flatMap_cons, List.flatMap_nil, List.append_nil, encI] at h; exact h)) ((perm3 (mp mb ekSp vB m2.1) (bx bo [.slice (some ⟨b37.1, 0, none⟩) (L.length + 1) b37.2]) (ow (.slice (some ⟨b37.1, 0, none⟩) (L.length + 1) b37.2) 3 1 (L.length + 1) (L.flatMap encI ++ [I x.1.1]))))) fun q => ?_
          refine JL_nil ?_
          refine JE_seq ?_
          refine JC_ret ?_
          refine JE_block_ret ?_
          refine JE_then_ret ?_
          -- stop: out
          refine JE_leave (fun st' R' a' W' => hX .ret .ret (q.1, q.2, L ++ x.1.1 :: rollL l en n (row + 1) x.1.2) rfl ⟨rfl, pre, x, rfl, hno, hcan, rfl⟩ st' R' a' W') (hsub_cons (hsub_cons (hsub_ow (by simp; omega) (by simp [encI]) hsub_nil)))
        · refine JC_skip ?_
          refine JE_block ?_
          -- stop: end
          refine JE_next (fun st' R' a' W' => hK (m2, v, L) ⟨rfl, fun y hy => ?_⟩ st' R' a' W') (hsub_cons (hsub_cons (hsub_cons hsub_nil)))
          rcases List.mem_append.1 hy with hy | hy
          · exact hno y hy
          · rw [List.mem_singleton.1 hy]; exact hcan
      · rintro xs ⟨m1, v1, L1⟩ hS ⟨hi1, hno⟩
        cases hi1
        have hres : rollL l en (n + 1) row s = [] := by
          have : (turnsOf (hookOf l row s.b)).find? (fun u => canN l en n (row + 1) (nextS s u)) = none := by
            rw [List.find?_eq_none]
            intro u hu
            rw [← hS, List.mem_map] at hu
            obtain ⟨x, hx, rfl⟩ := hu
            have := hno x hx
            rw [x.2.2.2] at this
            rw [this]; simp
          simp [rollL, this]
        refine JE_block ?_
        -- stop: out
        refine JE_out (.inr rfl) (m1, v) (results0 Try.results85 ) rfl (by rw [hres, hnil]) (fun _ _ => trivial)
      · rintro cd pre ⟨m1, v1, L1⟩ hS ⟨rfl, pre0, x, rfl, hno, hcan, hL1⟩
        simp only at hL1
        have hres : rollL l en (n + 1) row s = x.1.1 :: rollL l en n (row + 1) x.1.2 := by
          obtain ⟨k, hk, hpre⟩ := hS
          have hf : (turnsOf (hookOf l row s.b)).find? (fun u => canN l en n (row + 1) (nextS s u)) = some x.1.1 := by
            rw [← List.take_append_drop k (turnsOf (hookOf l row s.b)), ← hpre, List.map_append, List.append_assoc, List.find?_append]
            have h1 : (pre0.map fun x => x.1.1).find? (fun u => canN l en n (row + 1) (nextS s u)) = none := by
              rw [List.find?_eq_none]
              intro u hu
              obtain ⟨y, hy, rfl⟩ := List.mem_map.1 hu
              have := hno y hy
              rw [y.2.2.2] at this
              rw [this]; simp
            rw [h1]
            have h2 : canN l en n (row + 1) (nextS s x.1.1) = true := by rw [← x.2.2.2]; exact hcan
            simp [List.find?_cons, h2]
          have e := x.2.2.2
          simp only [rollL, hon, if_true, hf]
          rw [e]
        refine JC_ret ?_
        refine JE_block_ret ?_
        -- stop: out
        refine JE_out (.inl rfl) (m1, v1) (results0 Try.results85 ) rfl (by rw [hres, ← hL1]) (fun _ _ => trivial)
end Go.Proofs.Ytcfhbnfincpehaa

/- Walks of package path: Shows. -/
namespace Go.Proofs.Ytcfhbnfincpehaa
open Go.RowKit Go.Shelf

/-- The end that is looked for. -/
def enS (p : Pk) (hit : Bool) : Bool → St → Bool := if hit = true then hitsP p else enM p
def showL (l : La) (s : St) (p : Pk) (hit : Bool) : List Int := rollL l (enS p hit) (nR l) 0 s
theorem Shows_je (l : La) (s : St) (p : Pk) (hit : Bool) (ha pa : Option Addr) (hc pc : Nat) (he : aimErr l s p ≠ 0) : Cv Try.prog 49 [.agg #[I l.boards, I l.rows, .slice ha l.hooks.length hc, .slice pa l.patches.length pc], .agg #[I s.b, I s.d], .agg #[I p.boards.lo, I p.boards.hi, I p.dirs.lo, I p.dirs.hi], .bool hit] (KLane l ha hc pa pc) (.tuple #[.slice none 0 0, I (aimErr l s p)]) := by
  refine Cx_of Try.func49 rfl Try.ntmps49 rfl fun w0 M0 => ?_
  refine JC_seq ?_
  refine JC_region ?_
  refine JL_step rfl rfl rfl (jo_box rfl rfl) fun b4 => ?_
  refine JL_step rfl rfl rfl (jo_box rfl rfl) fun b5 => ?_
  refine JL_step rfl rfl rfl (jo_box rfl rfl) fun b6 => ?_
  refine JL_pd rfl (det_assign rfl) ?_
  refine JL_pd rfl (det_assign rfl) ?_
  refine JL_nil ?_
  refine JE_seq ?_
  refine JC_seq ?_
  refine JC_region ?_
  refine JL_dt rfl (det_loadKA rfl Try.isAgg37 Try.sizeOf37 rfl rfl) ?_
  refine JL_dt rfl (det_loadKA rfl Try.isAgg39 Try.sizeOf39 rfl rfl) ?_
  refine JL_dt rfl (det_loadKA rfl Try.isAgg62 Try.sizeOf62 rfl rfl) ?_
  -- stop: op  3 t21 := (call (Call (value f83) (t18 t19 t20) (37 39 62)))   <0 1 2>   93
  refine JL_step rfl rfl rfl (jo_callv rfl rfl Try.call83 rfl (aimed_je l s p ha pa hc pc he)) fun _ => ?_
  refine JL_pd rfl (det_move rfl) ?_
  refine JL_pd rfl (det_extract rfl rfl) ?_
  refine JL_pd rfl (det_extract rfl rfl) ?_
  refine JL_step rfl rfl rfl (jo_alloc0 Try.zeroValue107 rfl) fun b10 => ?_
  refine JL_step0 rfl rfl (jo_store rfl rfl rfl (by first | (simp only [splice_norm]; done) | (simp only [splice_norm]; rfl) | rfl) Try.sizeOf107 rfl rfl) fun _ => ?_
  refine JL_pd rfl (det_assign rfl) ?_
  refine JL_nil ?_
  refine JE_seq ?_
  refine JC_seq ?_
  refine JC_seq ?_
  refine JC_region ?_
  refine JL_pd rfl (det_move rfl) ?_
  refine JL_pd rfl (det_neq rfl rfl) ?_
  refine JL_nil ?_
  refine JE_seq ?_
  -- stop: cond
  refine JC_ifn rfl (fun h1 => ?_) (fun h1 => ?_)
  · refine JC_seq ?_
    refine JC_region ?_
    refine JL_pd rfl (det_move rfl) ?_
    refine JL_pd rfl (det_assign rfl) ?_
    refine JL_pd rfl (det_assign rfl) ?_
    refine JL_nil ?_
    refine JE_seq ?_
    refine JC_ret ?_
    refine JE_seq_ret ?_
    -- stop: out
    refine JE_out (.inl rfl) () (results2 Try.results49 (res_tmp rfl) (res_tmp rfl)) rfl (List.Perm.refl _) (fun _ _ => trivial)
  · exact absurd h1 he
set_option maxRecDepth 100000 in
theorem Shows_jn (l : La) (s : St) (p : Pk) (hit : Bool) (ha pa : Option Addr) (hc pc : Nat) (he : aimErr l s p = 0) (hno : canN l (enS p hit) (nR l) 0 s = false) : Cv Try.prog 49 [.agg #[I l.boards, I l.rows, .slice ha l.hooks.length hc, .slice pa l.patches.length pc], .agg #[I s.b, I s.d], .agg #[I p.boards.lo, I p.boards.hi, I p.dirs.lo, I p.dirs.hi], .bool hit] (KLane l ha hc pa pc) (.tuple #[.slice none 0 0, I 7]) := by
  obtain ⟨V, h0⟩ := valid_start (aim_ok he).1
  obtain ⟨d1, d2⟩ := start_d h0
  cases hit with
  | true =>
    have hno : canN l (hitsP p) (nR l) 0 s = false := hno
    refine Cx_of Try.func49 rfl Try.ntmps49 rfl fun w0 M0 => ?_
    refine JC_seq ?_
    refine JC_region ?_
    refine JL_step rfl rfl rfl (jo_box rfl rfl) fun b4 => ?_
    refine JL_step rfl rfl rfl (jo_box rfl rfl) fun b5 => ?_
    refine JL_step rfl rfl rfl (jo_box rfl rfl) fun b6 => ?_
    refine JL_pd rfl (det_assign rfl) ?_
    refine JL_pd rfl (det_assign rfl) ?_
    refine JL_nil ?_
    refine JE_seq ?_
    refine JC_seq ?_
    refine JC_region ?_
    refine JL_dt rfl (det_loadKA rfl Try.isAgg37 Try.sizeOf37 rfl rfl) ?_
    refine JL_dt rfl (det_loadKA rfl Try.isAgg39 Try.sizeOf39 rfl rfl) ?_
    refine JL_dt rfl (det_loadKA rfl Try.isAgg62 Try.sizeOf62 rfl rfl) ?_
    -- stop: op  3 t21 := (call (Call (value f83) (t18 t19 t20) (37 39 62)))   <0 1 2>   93
    refine JL_step rfl rfl rfl (jo_call rfl rfl Try.call83 rfl (aimed_jo l s p ha pa hc pc he)) fun g => ?_
    refine JL_pd rfl (det_move rfl) ?_
    refine JL_pd rfl (det_extract rfl rfl) ?_
    refine JL_pd rfl (det_extract rfl rfl) ?_
    refine JL_step rfl rfl rfl (jo_alloc0 Try.zeroValue107 rfl) fun b10 => ?_
    refine JL_step0 rfl rfl (jo_store rfl rfl rfl (by first | (simp only [splice_norm]; done) | (simp only [splice_norm]; rfl) | rfl) Try.sizeOf107 rfl rfl) fun _ => ?_
    refine JL_pd rfl (det_assign rfl) ?_
    refine JL_nil ?_
    refine JE_seq ?_
    refine JC_seq ?_
    refine JC_seq ?_
    refine JC_region ?_
    refine JL_pd rfl (det_move rfl) ?_
    refine JL_pd rfl (det_neq rfl rfl) ?_
    refine JL_nil ?_
    refine JE_seq ?_
    -- stop: cond
    refine JC_ifn rfl (fun h1 => ?_) (fun h1 => ?_)
    · exact absurd rfl h1
    · refine JC_skip ?_
      refine JE_seq ?_
      refine JC_seq ?_
      refine JC_region ?_
      refine JL_dt rfl (det_loadKA rfl Try.isAgg107 Try.sizeOf107 rfl rfl) ?_
      refine JL_dt rfl (det_loadKA rfl Try.isAgg62 Try.sizeOf62 rfl rfl) ?_
      -- stop: op  2 t30 := (call (Call (value f73) (t28 t29) (107 62)))   <0 1>   97
      refine JL_step rfl rfl rfl (jo_callx rfl rfl Try.call73 rfl (aimers_j l p ha pa hc pc g) ((List.Perm.refl _))) fun ⟨⟨A1, A2⟩, m1, m2⟩ => ?_
      refine JL_pd rfl (det_move rfl) ?_
      refine JL_pd rfl (det_extract rfl rfl) ?_
      refine JL_pd rfl (det_extract rfl rfl) ?_
      refine JL_pd rfl (det_assign rfl) ?_
      refine JL_pd rfl (det_assign rfl) ?_
      refine JL_nil ?_
      refine JE_seq ?_
      refine JC_seq ?_
      refine JC_seq ?_
      refine JC_region ?_
      refine JL_pd rfl (det_move rfl) ?_
      refine JL_pd rfl (det_not rfl) ?_
      refine JL_nil ?_
      refine JE_seq ?_
      -- stop: cond
      refine JC_cond rfl (fun h2 => ?_) (fun h2 => ?_)
      · cases h2
      · refine JC_skip ?_
        refine JE_seq ?_
        refine JC_seq ?_
        refine JC_region ?_
        refine JL_pd rfl (det_move rfl) ?_
        refine JL_pd rfl (det_makeFuncE rfl rfl) ?_
        refine JL_step rfl rfl rfl (jo_alloc0 Try.zeroValue137 rfl) fun b14 => ?_
        refine JL_step0 rfl rfl (jo_store rfl rfl rfl (by first | (simp only [splice_norm]; done) | (simp only [splice_norm]; rfl) | rfl) Try.sizeOf137 rfl rfl) fun _ => ?_
        refine JL_nil ?_
        refine JE_seq ?_
        refine JC_seq ?_
        refine JC_seq ?_
        refine JC_region ?_
        refine JL_dt rfl (det_loadK rfl Try.isAgg137 rfl) ?_
        refine JL_dt rfl (det_loadKA rfl Try.isAgg39 Try.sizeOf39 rfl rfl) ?_
        -- stop: op  2 t40 := (call (Call (value t38) (0 t39) (3 39)))   <0 1>   102
        refine JL_step rfl rfl rfl (jo_callx rfl rfl Try.call74 rfl (canH_j l p ha pa hc pc g A1 m1 V s (noMemo l (hitsP p)) d1 d2) ((perm1 (mp m1 ekSp vB (fun _ => none))))) fun n1 => ?_
        refine JL_pd rfl (det_not rfl) ?_
        refine JL_nil ?_
        refine JE_seq ?_
        -- stop: cond
        rw [hno]
        refine JC_cond rfl (fun h3 => ?_) (fun h3 => ?_)
        · refine JC_seq ?_
          refine JC_region ?_
          refine JL_pd rfl (det_assign rfl) ?_
          refine JL_pd rfl (det_assign rfl) ?_
          refine JL_nil ?_
          refine JE_seq ?_
          refine JC_ret ?_
          refine JE_seq_ret ?_
          -- stop: out
          refine JE_out (.inl rfl) () (results2 Try.results49 (res_tmp rfl) (res_tmp rfl)) rfl (List.Perm.refl _) (fun _ _ => trivial)
        · cases h3
  | false =>
    have hno : canN l (enM p) (nR l) 0 s = false := hno
    refine Cx_of Try.func49 rfl Try.ntmps49 rfl fun w0 M0 => ?_
    refine JC_seq ?_
    refine JC_region ?_
    refine JL_step rfl rfl rfl (jo_box rfl rfl) fun b4 => ?_
    refine JL_step rfl rfl rfl (jo_box rfl rfl) fun b5 => ?_
    refine JL_step rfl rfl rfl (jo_box rfl rfl) fun b6 => ?_
    refine JL_pd rfl (det_assign rfl) ?_
    refine JL_pd rfl (det_assign rfl) ?_
    refine JL_nil ?_
    refine JE_seq ?_
    refine JC_seq ?_
    refine JC_region ?_
    refine JL_dt rfl (det_loadKA rfl Try.isAgg37 Try.sizeOf37 rfl rfl) ?_
    refine JL_dt rfl (det_loadKA rfl Try.isAgg39 Try.sizeOf39 rfl rfl) ?_
    refine JL_dt rfl (det_loadKA rfl Try.isAgg62 Try.sizeOf62 rfl rfl) ?_
    -- stop: op  3 t21 := (call (Call (value f83) (t18 t19 t20) (37 39 62)))   <0 1 2>   93
    refine JL_step rfl rfl rfl (jo_call rfl rfl Try.call83 rfl (aimed_jo l s p ha pa hc pc he)) fun g => ?_
    refine JL_pd rfl (det_move rfl) ?_
    refine JL_pd rfl (det_extract rfl rfl) ?_
    refine JL_pd rfl (det_extract rfl rfl) ?_
    refine JL_step rfl rfl rfl (jo_alloc0 Try.zeroValue107 rfl) fun b10 => ?_
    refine JL_step0 rfl rfl (jo_store rfl rfl rfl (by first | (simp only [splice_norm]; done) | (simp only [splice_norm]; rfl) | rfl) Try.sizeOf107 rfl rfl) fun _ => ?_
    refine JL_pd rfl (det_assign rfl) ?_
    refine JL_nil ?_
    refine JE_seq ?_
    refine JC_seq ?_
    refine JC_seq ?_
    refine JC_region ?_
    refine JL_pd rfl (det_move rfl) ?_
    refine JL_pd rfl (det_neq rfl rfl) ?_
    refine JL_nil ?_
    refine JE_seq ?_
    -- stop: cond
    refine JC_ifn rfl (fun h1 => ?_) (fun h1 => ?_)
    · exact absurd rfl h1
    · refine JC_skip ?_
      refine JE_seq ?_
      refine JC_seq ?_
      refine JC_region ?_
      refine JL_dt rfl (det_loadKA rfl Try.isAgg107 Try.sizeOf107 rfl rfl) ?_
      refine JL_dt rfl (det_loadKA rfl Try.isAgg62 Try.sizeOf62 rfl rfl) ?_
      -- stop: op  2 t30 := (call (Call (value f73) (t28 t29) (107 62)))   <0 1>   97
      refine JL_step rfl rfl rfl (jo_callx rfl rfl Try.call73 rfl (aimers_j l p ha pa hc pc g) ((List.Perm.refl _))) fun ⟨⟨A1, A2⟩, m1, m2⟩ => ?_
      refine JL_pd rfl (det_move rfl) ?_
      refine JL_pd rfl (det_extract rfl rfl) ?_
      refine JL_pd rfl (det_extract rfl rfl) ?_
      refine JL_pd rfl (det_assign rfl) ?_
      refine JL_pd rfl (det_assign rfl) ?_
      refine JL_nil ?_
      refine JE_seq ?_
      refine JC_seq ?_
      refine JC_seq ?_
      refine JC_region ?_
      refine JL_pd rfl (det_move rfl) ?_
      refine JL_pd rfl (det_not rfl) ?_
      refine JL_nil ?_
      refine JE_seq ?_
      -- stop: cond
      refine JC_cond rfl (fun h2 => ?_) (fun h2 => ?_)
      · refine JC_region ?_
        refine JL_pd rfl (det_move rfl) ?_
        refine JL_pd rfl (det_assign rfl) ?_
        refine JL_nil ?_
        refine JE_seq ?_
        refine JC_seq ?_
        refine JC_region ?_
        refine JL_pd rfl (det_move rfl) ?_
        refine JL_pd rfl (det_makeFuncE rfl rfl) ?_
        refine JL_step rfl rfl rfl (jo_alloc0 Try.zeroValue137 rfl) fun b14 => ?_
        refine JL_step0 rfl rfl (jo_store rfl rfl rfl (by first | (simp only [splice_norm]; done) | (simp only [splice_norm]; rfl) | rfl) Try.sizeOf137 rfl rfl) fun _ => ?_
        refine JL_nil ?_
        refine JE_seq ?_
        refine JC_seq ?_
        refine JC_seq ?_
        refine JC_region ?_
        refine JL_dt rfl (det_loadK rfl Try.isAgg137 rfl) ?_
        refine JL_dt rfl (det_loadKA rfl Try.isAgg39 Try.sizeOf39 rfl rfl) ?_
        -- stop: op  2 t40 := (call (Call (value t38) (0 t39) (3 39)))   <0 1>   102
        refine JL_step rfl rfl rfl (jo_callx rfl rfl Try.call74 rfl (canM_j l p ha pa hc pc g A2 m2 V s (noMemo l (enM p)) d1 d2) ((perm1 (mp m2 ekSp vB (fun _ => none))))) fun n1 => ?_
        refine JL_pd rfl (det_not rfl) ?_
        refine JL_nil ?_
        refine JE_seq ?_
        -- stop: cond
        rw [hno]
        refine JC_cond rfl (fun h3 => ?_) (fun h3 => ?_)
        · refine JC_seq ?_
          refine JC_region ?_
          refine JL_pd rfl (det_assign rfl) ?_
          refine JL_pd rfl (det_assign rfl) ?_
          refine JL_nil ?_
          refine JE_seq ?_
          refine JC_ret ?_
          refine JE_seq_ret ?_
          -- stop: out
          refine JE_out (.inl rfl) () (results2 Try.results49 (res_tmp rfl) (res_tmp rfl)) rfl (List.Perm.refl _) (fun _ _ => trivial)
        · cases h3
      · cases h2
set_option maxRecDepth 100000 in
theorem Shows_jo (l : La) (s : St) (p : Pk) (hit : Bool) (ha pa : Option Addr) (hc pc : Nat) (he : aimErr l s p = 0) (hyes : canN l (enS p hit) (nR l) 0 s = true) : Cr Try.prog 49 [.agg #[I l.boards, I l.rows, .slice ha l.hooks.length hc, .slice pa l.patches.length pc], .agg #[I s.b, I s.d], .agg #[I p.boards.lo, I p.boards.hi, I p.dirs.lo, I p.dirs.hi], .bool hit] (KLane l ha hc pa pc)
    (fun q : Option Addr × Nat => .tuple #[.slice q.1 (showL l s p hit).length q.2, I 0]) (fun q => KSl q.1 (showL l s p hit).length q.2 encI (showL l s p hit)) := by
  obtain ⟨V, h0⟩ := valid_start (aim_ok he).1
  obtain ⟨d1, d2⟩ := start_d h0
  have r1 := V.r1
  have hnr : (0 : Int) + ((nR l : Nat) : Int) = l.rows - 1 := by unfold nR; omega
  cases hit with
  | true =>
    have hyes : canN l (hitsP p) (nR l) 0 s = true := hyes
    have hsh : showL l s p true = rollL l (hitsP p) (nR l) 0 s := rfl
    rw [hsh]
    refine Cx_of Try.func49 rfl Try.ntmps49 rfl fun w0 M0 => ?_
    refine JC_seq ?_
    refine JC_region ?_
    refine JL_step rfl rfl rfl (jo_box rfl rfl) fun b4 => ?_
    refine JL_step rfl rfl rfl (jo_box rfl rfl) fun b5 => ?_
    refine JL_step rfl rfl rfl (jo_box rfl rfl) fun b6 => ?_
    refine JL_pd rfl (det_assign rfl) ?_
    refine JL_pd rfl (det_assign rfl) ?_
    refine JL_nil ?_
    refine JE_seq ?_
    refine JC_seq ?_
    refine JC_region ?_
    refine JL_dt rfl (det_loadKA rfl Try.isAgg37 Try.sizeOf37 rfl rfl) ?_
    refine JL_dt rfl (det_loadKA rfl Try.isAgg39 Try.sizeOf39 rfl rfl) ?_
    refine JL_dt rfl (det_loadKA rfl Try.isAgg62 Try.sizeOf62 rfl rfl) ?_
    -- stop: op  3 t21 := (call (Call (value f83) (t18 t19 t20) (37 39 62)))   <0 1 2>   93
    refine JL_step rfl rfl rfl (jo_call rfl rfl Try.call83 rfl (aimed_jo l s p ha pa hc pc he)) fun g => ?_
    refine JL_pd rfl (det_move rfl) ?_
    refine JL_pd rfl (det_extract rfl rfl) ?_
    refine JL_pd rfl (det_extract rfl rfl) ?_
    refine JL_step rfl rfl rfl (jo_alloc0 Try.zeroValue107 rfl) fun b10 => ?_
    refine JL_step0 rfl rfl (jo_store rfl rfl rfl (by first | (simp only [splice_norm]; done) | (simp only [splice_norm]; rfl) | rfl) Try.sizeOf107 rfl rfl) fun _ => ?_
    refine JL_pd rfl (det_assign rfl) ?_
    refine JL_nil ?_
    refine JE_seq ?_
    refine JC_seq ?_
    refine JC_seq ?_
    refine JC_region ?_
    refine JL_pd rfl (det_move rfl) ?_
    refine JL_pd rfl (det_neq rfl rfl) ?_
    refine JL_nil ?_
    refine JE_seq ?_
    -- stop: cond
    refine JC_ifn rfl (fun h1 => ?_) (fun h1 => ?_)
    · exact absurd rfl h1
    · refine JC_skip ?_
      refine JE_seq ?_
      refine JC_seq ?_
      refine JC_region ?_
      refine JL_dt rfl (det_loadKA rfl Try.isAgg107 Try.sizeOf107 rfl rfl) ?_
      refine JL_dt rfl (det_loadKA rfl Try.isAgg62 Try.sizeOf62 rfl rfl) ?_
      -- stop: op  2 t30 := (call (Call (value f73) (t28 t29) (107 62)))   <0 1>   97
      refine JL_step rfl rfl rfl (jo_callx rfl rfl Try.call73 rfl (aimers_j l p ha pa hc pc g) ((List.Perm.refl _))) fun ⟨⟨A1, A2⟩, m1, m2⟩ => ?_
      refine JL_pd rfl (det_move rfl) ?_
      refine JL_pd rfl (det_extract rfl rfl) ?_
      refine JL_pd rfl (det_extract rfl rfl) ?_
      refine JL_pd rfl (det_assign rfl) ?_
      refine JL_pd rfl (det_assign rfl) ?_
      refine JL_nil ?_
      refine JE_seq ?_
      refine JC_seq ?_
      refine JC_seq ?_
      refine JC_region ?_
      refine JL_pd rfl (det_move rfl) ?_
      refine JL_pd rfl (det_not rfl) ?_
      refine JL_nil ?_
      refine JE_seq ?_
      -- stop: cond
      refine JC_cond rfl (fun h2 => ?_) (fun h2 => ?_)
      · cases h2
      · refine JC_skip ?_
        refine JE_seq ?_
        refine JC_seq ?_
        refine JC_region ?_
        refine JL_pd rfl (det_move rfl) ?_
        refine JL_pd rfl (det_makeFuncE rfl rfl) ?_
        refine JL_step rfl rfl rfl (jo_alloc0 Try.zeroValue137 rfl) fun b14 => ?_
        refine JL_step0 rfl rfl (jo_store rfl rfl rfl (by first | (simp only [splice_norm]; done) | (simp only [splice_norm]; rfl) | rfl) Try.sizeOf137 rfl rfl) fun _ => ?_
        refine JL_nil ?_
        refine JE_seq ?_
        refine JC_seq ?_
        refine JC_seq ?_
        refine JC_region ?_
        refine JL_dt rfl (det_loadK rfl Try.isAgg137 rfl) ?_
        refine JL_dt rfl (det_loadKA rfl Try.isAgg39 Try.sizeOf39 rfl rfl) ?_
        -- stop: op  2 t40 := (call (Call (value t38) (0 t39) (3 39)))   <0 1>   102
        refine JL_step rfl rfl rfl (jo_callx rfl rfl Try.call74 rfl (canH_j l p ha pa hc pc g A1 m1 V s (noMemo l (hitsP p)) d1 d2) ((perm1 (mp m1 ekSp vB (fun _ => none))))) fun n1 => ?_
        refine JL_pd rfl (det_not rfl) ?_
        refine JL_nil ?_
        refine JE_seq ?_
        -- stop: cond
        rw [hyes]
        refine JC_cond rfl (fun h3 => ?_) (fun h3 => ?_)
        · cases h3
        · refine JC_skip ?_
          refine JE_seq ?_
          refine JC_seq ?_
          refine JC_region ?_
          refine JL_step rfl rfl rfl (jo_alloc0 Try.zeroValue75 rfl) fun b15 => ?_
          refine JL_nil ?_
          refine JE_seq ?_
          refine JC_seq ?_
          refine JC_region ?_
          refine JL_step rfl rfl rfl (jo_alloc0 Try.zeroValue147 rfl) fun b16 => ?_
          refine JL_nil ?_
          refine JE_seq ?_
          refine JC_seq ?_
          refine JC_region ?_
          refine JL_pd rfl (det_makeFuncE rfl rfl) ?_
          refine JL_step0 rfl rfl (jo_store rfl rfl rfl (by first | (simp only [splice_norm]; done) | (simp only [splice_norm]; rfl) | rfl) Try.sizeOf147 rfl rfl) fun _ => ?_
          refine JL_nil ?_
          refine JE_seq ?_
          refine JC_seq ?_
          refine JC_region ?_
          refine JL_dt rfl (det_loadK rfl Try.isAgg147 rfl) ?_
          refine JL_dt rfl (det_loadKA rfl Try.isAgg39 Try.sizeOf39 rfl rfl) ?_
          -- stop: op  2 t45 := (call (Call (value t43) (0 t44) (3 39)))   <0 1>   120
          refine JL_keep b10 noFp (JL_keep b14 noFp (JL_keep b16 noFp (JL_nilS 3 1 ?_)))
          refine JL_step rfl rfl rfl (jo_callx rfl rfl Try.call85 rfl (roll_j l p ha pa hc pc g b10 b14 b15 b16 A1 91 m1 (hitsP p) V Try.call91 (fun b s => hit_j p b s) (nR l) 0 s n1 [] (.slice none 0 0) hnr (by omega) d1 d2 (by simp)) ((perm3 (mp m1 ekSp vB n1.1) (bx b15 [.slice none 0 0]) (ow (.slice none 0 0) 3 1 0 [])))) fun q => ?_
          refine JL_nil ?_
          refine JE_seq ?_
          refine JC_seq ?_
          refine JC_region ?_
          refine JL_dt rfl (det_loadK rfl Try.isAgg75 rfl) ?_
          refine JL_pd rfl (det_assign rfl) ?_
          refine JL_pd rfl (det_assign rfl) ?_
          refine JL_nil ?_
          refine JE_seq ?_
          refine JC_ret ?_
          -- stop: out
          refine JE_slice (enc := encI) (v := q.2) (rollL l (hitsP p) (nR l) 0 s) noFp (by rw [List.nil_append]) (by rw [List.nil_append]) ?_
          rintro a cap h
          rw [List.nil_append]
          refine JE_out (.inl rfl) (a, cap) (results2 Try.results49 (res_tmp rfl) (res_tmp rfl)) (by rw [h]; rfl) (List.Perm.refl _) (fun w h => h.1)
  | false =>
    have hyes : canN l (enM p) (nR l) 0 s = true := hyes
    have hsh : showL l s p false = rollL l (enM p) (nR l) 0 s := rfl
    rw [hsh]
    refine Cx_of Try.func49 rfl Try.ntmps49 rfl fun w0 M0 => ?_
    refine JC_seq ?_
    refine JC_region ?_
    refine JL_step rfl rfl rfl (jo_box rfl rfl) fun b4 => ?_
    refine JL_step rfl rfl rfl (jo_box rfl rfl) fun b5 => ?_
    refine JL_step rfl rfl rfl (jo_box rfl rfl) fun b6 => ?_
    refine JL_pd rfl (det_assign rfl) ?_
    refine JL_pd rfl (det_assign rfl) ?_
    refine JL_nil ?_
    refine JE_seq ?_
    refine JC_seq ?_
    refine JC_region ?_
    refine JL_dt rfl (det_loadKA rfl Try.isAgg37 Try.sizeOf37 rfl rfl) ?_
    refine JL_dt rfl (det_loadKA rfl Try.isAgg39 Try.sizeOf39 rfl rfl) ?_
    refine JL_dt rfl (det_loadKA rfl Try.isAgg62 Try.sizeOf62 rfl rfl) ?_
    -- stop: op  3 t21 := (call (Call (value f83) (t18 t19 t20) (37 39 62)))   <0 1 2>   93
    refine JL_step rfl rfl rfl (jo_call rfl rfl Try.call83 rfl (aimed_jo l s p ha pa hc pc he)) fun g => ?_
    refine JL_pd rfl (det_move rfl) ?_
    refine JL_pd rfl (det_extract rfl rfl) ?_
    refine JL_pd rfl (det_extract rfl rfl) ?_
    refine JL_step rfl rfl rfl (jo_alloc0 Try.zeroValue107 rfl) fun b10 => ?_
    refine JL_step0 rfl rfl (jo_store rfl rfl rfl (by first | (simp only [splice_norm]; done) | (simp only [splice_norm]; rfl) | rfl) Try.sizeOf107 rfl rfl) fun _ => ?_
    refine JL_pd rfl (det_assign rfl) ?_
    refine JL_nil ?_
    refine JE_seq ?_
    refine JC_seq ?_
    refine JC_seq ?_
    refine JC_region ?_
    refine JL_pd rfl (det_move rfl) ?_
    refine JL_pd rfl (det_neq rfl rfl) ?_
    refine JL_nil ?_
    refine JE_seq ?_
    -- stop: cond
    refine JC_ifn rfl (fun h1 => ?_) (fun h1 => ?_)
    · exact absurd rfl h1
    · refine JC_skip ?_
      refine JE_seq ?_
      refine JC_seq ?_
      refine JC_region ?_
      refine JL_dt rfl (det_loadKA rfl Try.isAgg107 Try.sizeOf107 rfl rfl) ?_
      refine JL_dt rfl (det_loadKA rfl Try.isAgg62 Try.sizeOf62 rfl rfl) ?_
      -- stop: op  2 t30 := (call (Call (value f73) (t28 t29) (107 62)))   <0 1>   97
      refine JL_step rfl rfl rfl (jo_callx rfl rfl Try.call73 rfl (aimers_j l p ha pa hc pc g) ((List.Perm.refl _))) fun ⟨⟨A1, A2⟩, m1, m2⟩ => ?_
      refine JL_pd rfl (det_move rfl) ?_
      refine JL_pd rfl (det_extract rfl rfl) ?_
      refine JL_pd rfl (det_extract rfl rfl) ?_
      refine JL_pd rfl (det_assign rfl) ?_
      refine JL_pd rfl (det_assign rfl) ?_
      refine JL_nil ?_
      refine JE_seq ?_
      refine JC_seq ?_
      refine JC_seq ?_
      refine JC_region ?_
      refine JL_pd rfl (det_move rfl) ?_
      refine JL_pd rfl (det_not rfl) ?_
      refine JL_nil ?_
      refine JE_seq ?_
      -- stop: cond
      refine JC_cond rfl (fun h2 => ?_) (fun h2 => ?_)
      · refine JC_region ?_
        refine JL_pd rfl (det_move rfl) ?_
        refine JL_pd rfl (det_assign rfl) ?_
        refine JL_nil ?_
        refine JE_seq ?_
        refine JC_seq ?_
        refine JC_region ?_
        refine JL_pd rfl (det_move rfl) ?_
        refine JL_pd rfl (det_makeFuncE rfl rfl) ?_
        refine JL_step rfl rfl rfl (jo_alloc0 Try.zeroValue137 rfl) fun b14 => ?_
        refine JL_step0 rfl rfl (jo_store rfl rfl rfl (by first | (simp only [splice_norm]; done) | (simp only [splice_norm]; rfl) | rfl) Try.sizeOf137 rfl rfl) fun _ => ?_
        refine JL_nil ?_
        refine JE_seq ?_
        refine JC_seq ?_
        refine JC_seq ?_
        refine JC_region ?_
        refine JL_dt rfl (det_loadK rfl Try.isAgg137 rfl) ?_
        refine JL_dt rfl (det_loadKA rfl Try.isAgg39 Try.sizeOf39 rfl rfl) ?_
        -- stop: op  2 t40 := (call (Call (value t38) (0 t39) (3 39)))   <0 1>   102
        refine JL_step rfl rfl rfl (jo_callx rfl rfl Try.call74 rfl (canM_j l p ha pa hc pc g A2 m2 V s (noMemo l (enM p)) d1 d2) ((perm1 (mp m2 ekSp vB (fun _ => none))))) fun n1 => ?_
        refine JL_pd rfl (det_not rfl) ?_
        refine JL_nil ?_
        refine JE_seq ?_
        -- stop: cond
        rw [hyes]
        refine JC_cond rfl (fun h3 => ?_) (fun h3 => ?_)
        · cases h3
        · refine JC_skip ?_
          refine JE_seq ?_
          refine JC_seq ?_
          refine JC_region ?_
          refine JL_step rfl rfl rfl (jo_alloc0 Try.zeroValue75 rfl) fun b15 => ?_
          refine JL_nil ?_
          refine JE_seq ?_
          refine JC_seq ?_
          refine JC_region ?_
          refine JL_step rfl rfl rfl (jo_alloc0 Try.zeroValue147 rfl) fun b16 => ?_
          refine JL_nil ?_
          refine JE_seq ?_
          refine JC_seq ?_
          refine JC_region ?_
          refine JL_pd rfl (det_makeFuncE rfl rfl) ?_
          refine JL_step0 rfl rfl (jo_store rfl rfl rfl (by first | (simp only [splice_norm]; done) | (simp only [splice_norm]; rfl) | rfl) Try.sizeOf147 rfl rfl) fun _ => ?_
          refine JL_nil ?_
          refine JE_seq ?_
          refine JC_seq ?_
          refine JC_region ?_
          refine JL_dt rfl (det_loadK rfl Try.isAgg147 rfl) ?_
          refine JL_dt rfl (det_loadKA rfl Try.isAgg39 Try.sizeOf39 rfl rfl) ?_
          -- stop: op  2 t45 := (call (Call (value t43) (0 t44) (3 39)))   <0 1>   120
          refine JL_keep b10 noFp (JL_keep b14 noFp (JL_keep b16 noFp (JL_nilS 3 1 ?_)))
          refine JL_step rfl rfl rfl (jo_callx rfl rfl Try.call85 rfl (roll_j l p ha pa hc pc g b10 b14 b15 b16 A2 92 m2 (enM p) V Try.call92 (fun b s => miss_j p b s) (nR l) 0 s n1 [] (.slice none 0 0) hnr (by omega) d1 d2 (by simp)) ((perm3 (mp m2 ekSp vB n1.1) (bx b15 [.slice none 0 0]) (ow (.slice none 0 0) 3 1 0 [])))) fun q => ?_
          refine JL_nil ?_
          refine JE_seq ?_
          refine JC_seq ?_
          refine JC_region ?_
          refine JL_dt rfl (det_loadK rfl Try.isAgg75 rfl) ?_
          refine JL_pd rfl (det_assign rfl) ?_
          refine JL_pd rfl (det_assign rfl) ?_
          refine JL_nil ?_
          refine JE_seq ?_
          refine JC_ret ?_
          -- stop: out
          refine JE_slice (enc := encI) (v := q.2) (rollL l (enM p) (nR l) 0 s) noFp (by rw [List.nil_append]) (by rw [List.nil_append]) ?_
          rintro a cap h
          rw [List.nil_append]
          refine JE_out (.inl rfl) (a, cap) (results2 Try.results49 (res_tmp rfl) (res_tmp rfl)) (by rw [h]; rfl) (List.Perm.refl _) (fun w h => h.1)
      · cases h2
/-- The truth that Shows finds hits, or misses, as is asked. -/
theorem show_truth {l : La} {s : St} (V : Valid l) (h0 : isStart l s = true) (p : Pk) (hit : Bool) (hyes : canN l (enS p hit) (nR l) 0 s = true) : ∃ over g, Truth l (nR l) 0 s (showL l s p hit) over g ∧ hitB p over g = hit := by
  obtain ⟨over, g, hT, ha, hb⟩ := roll_truth V (enS p hit) (nR l) 0 s (onL_start h0) hyes
  refine ⟨over, g, hT, ?_⟩
  cases g with
  | true =>
    obtain ⟨x, hx⟩ := ha rfl
    cases hit with
    | true => simp [enS, hitsP] at hx
    | false => simp [hitB]
  | false =>
    obtain ⟨x, hx, hy⟩ := hb rfl
    cases hit with
    | true =>
      simp only [enS, if_true, hitsP, Bool.true_and] at hy
      simp only [hitB, hx, Bool.not_false, Bool.true_and, hy]
    | false =>
      simp only [enS, enM, hitsP, Bool.true_and, Bool.false_eq_true, if_false] at hy
      simp only [hitB, hx, Bool.not_false, Bool.true_and]
      cases hq : (inR x.b p.boards && inR x.d p.dirs)
      · rfl
      · rw [hq] at hy; cases hy
end Go.Proofs.Ytcfhbnfincpehaa

/- Slices made, and cut short. Nothing is asked. -/
namespace Go.Proofs.Ytcfhbnfincpehaa
open Go.RowKit Go.Shelf

section
variable {X : Ctx} {P : Program} {st : Sto} {H H' : List Chunk} {R : World → Prop} {d : Option Nat} {ty : TypeId} {pos : String} {af : Array Edge} {g : Option (Nat × Bool)}
/-- A slice that is made. -/
theorem jo_makeSlice {x y : Operand} {t T z bytes n : Nat} {kl kc : IntKind} {j : Int} {zv : Value} (hx : opnd st x = some (.int kl j)) (hy : opnd st y = some (.int kc j)) (hj : j = (n : Int)) (ht : P.underlying t = some (.slice T)) (hi : (P.info? T).map (fun i => (i.zero, i.size, i.bytes)) = some (some zv, z, bytes))
    (hb : bytes * n ≤ 281474976710656) (hn : n ≤ 9223372036854775807) :
    JO X P ⟨d, .makeSlice t x y, ty, pos, af, g⟩ st H R (fun b : Nat => .slice (some ⟨b, 0, none⟩) n n) (fun b => ow (.slice (some ⟨b, 0, none⟩) n n) T z n (madeCells zv.cells (n * z)).toList :: H) (fun _ => R) := by
  obtain ⟨i, h1, h2, h3, h4⟩ := info_parts hi
  subst h3 h4 hj
  refine jo_new (.cells (madeCells zv.cells (n * i.size)) T) _ (fun b => ow (.slice (some ⟨b, 0, none⟩) n n) T i.size n (madeCells zv.cells (n * i.size)).toList) (fun a w hs => ?_)
    (fun w => ow_holds ⟨by simp [size_madeCells], .inr ⟨w.heap.size, n, madeCells zv.cells (n * i.size), rfl, Nat.zero_le _, heap_alloc_new w _, Nat.le_refl _, by unfold maxLen; omega, size_madeCells _ _, List.take_of_length_le (by rw [Array.length_toList, size_madeCells]; exact Nat.le_refl _)⟩⟩)
    (fun b x hx => by
      have : (Value.slice (some (⟨b, 0, none⟩ : Addr)) n n).ownBlock = some x := hx
      simpa [Value.ownBlock] using this.symm) (by intro c h; cases h)
  have hr := run_make_rowN (P := P) t T i zv ht h1 h2 kl kc n n (Nat.le_refl _) hb hn w
  simp only [execOp, hs.eval hx, hs.eval hy, Sem.run_bind, hr, Result.andThen_ok, Sem.run_pure]
end
theorem KSl_of_box2 {α : Type} {enc : α → List Value} {xs : List α} {b n : Nat} {cs : List Value} {w : World} (hc : cs = xs.flatMap enc) (hn : n = xs.length) (hm : n ≤ maxLen) (h : Box w b cs) : KSl (some ⟨b, 0, none⟩) n n enc xs w := by
  subst hc
  refine ⟨⟨Nat.le_refl _, hm, fun h => (by cases h), fun _ => ⟨b, 0, rfl, h.lt, fun i c hi => ?_⟩⟩, hn⟩
  have := h.cell i hi
  simpa using this
section
variable {X : Ctx} {P : Program} {st : Sto} {H H' H0 : List Chunk} {R R0 : World → Prop} {k : Kont} {ops : Array Oper} {rest : List Oper} {Q : Exit → Act → World → Prop} {fuel : Nat} {listed : Array Bool} {tl : List Nat}
/-- A small slice that was built is known from now on. -/
theorem JL_lit {α : Type} {enc : α → List Value} {cs : List Value} (b n : Nat) (xs : List α) [hp : BoxPick H b cs H'] (hF : ∀ b, ¬ X.Fp b) (hc : cs = xs.flatMap enc) (hn : n = xs.length) (hm : n ≤ maxLen)
    (h : JL X P ops Q rest st H' (KAnd (KSl (some ⟨b, 0, none⟩) n n enc xs) R)) : JL X P ops Q rest st H R :=
  JL_keep b hF (JL_know (fun _ hw => ⟨KSl_of_box2 hc hn hm hw.1, hw.2⟩) h)
theorem JC_lit {c : Code} {α : Type} {enc : α → List Value} {cs : List Value} (b n : Nat) (xs : List α) [hp : BoxPick H b cs H'] (hF : ∀ b, ¬ X.Fp b) (hc : cs = xs.flatMap enc) (hn : n = xs.length) (hm : n ≤ maxLen)
    (h : JC X P c k st H' (KAnd (KSl (some ⟨b, 0, none⟩) n n enc xs) R)) : JC X P c k st H R :=
  JC_keep b hF (JC_know (fun _ hw => ⟨KSl_of_box2 hc hn hm hw.1, hw.2⟩) h)
theorem JA_lit {α : Type} {enc : α → List Value} {cs : List Value} (b n : Nat) (xs : List α) [hp : BoxPick H b cs H'] [hi : HIn H' H0] (hF : ∀ b, ¬ X.Fp b) (hc : cs = xs.flatMap enc) (hn : n = xs.length) (hm : n ≤ maxLen)
    (h : JA X P ops k tl H0 R0 fuel listed st H' (KAnd (KSl (some ⟨b, 0, none⟩) n n enc xs) R)) : JA X P ops k tl H0 R0 fuel listed st H R := fun hs a w ho => by
  have := pick_of_bx (cs := cs) (H := H) (H' := H') b
  exact h ⟨hi.sub, fun w hw => hs.2 w hw.2⟩ a w ((ho.freeze (c := bx b cs) hF).know fun w hw => ⟨KSl_of_box2 hc hn hm hw.1, hw.2⟩)
end
section
variable {X : Ctx} {P : Program} {st : Sto} {H H' : List Chunk} {R : World → Prop} {k : Kont} {ops : Array Oper} {rest : List Oper} {Q : Exit → Act → World → Prop}
/-- A slice of the call's own that has a record: its form. -/
theorem ok_form {ac : Act} {w : World} {v : Value} {n T z : Nat} {xs : List Value} [hp : OwnAt H v T z n xs H'] (hn : 0 < n) (h : Ok X st H R ac w) : ∃ b cap, v = .slice (some ⟨b, 0, none⟩) n cap := by
  obtain ⟨h1, M, Ds, h2, hm⟩ := h
  obtain ⟨A, B, e1, e2⟩ := hp.ex
  have := (hm.hold (ow v T z n xs) (by rw [e1]; simp)).now
  rcases this.2 with ⟨_, h⟩ | ⟨g, cap', cur, hv, _⟩
  · omega
  · exact ⟨g, cap', hv⟩
theorem JL_form {n T z : Nat} {xs : List Value} (v : Value) [hp : OwnAt H v T z n xs H'] (hn : 0 < n) (h : ∀ b cap, v = .slice (some ⟨b, 0, none⟩) n cap → JL X P ops Q rest st H R) : JL X P ops Q rest st H R := fun ac w ho => by
  obtain ⟨b, cap, e⟩ := ok_form (v := v) hn ho
  exact h b cap e ac w ho
end
end Go.Proofs.Ytcfhbnfincpehaa
