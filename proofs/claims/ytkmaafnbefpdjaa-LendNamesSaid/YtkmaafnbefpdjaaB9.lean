/- Own texts, laid together: E21p E24p E26 J28 E28 E29 E30. Nothing is asked. -/
import Derived.Test.YtkmaafnbefpdjaaB8
import Derived.Test.YtkmaafnbefpdjaaB4
set_option linter.unusedSimpArgs false
set_option linter.unusedVariables false
/- The statements about lend: LendOnce. -/
namespace Go.Proofs.Ytkmaafnbefpdjaa
open Go.RowKit Go.Shelf

def encU (n : Int) : List Value := [.int .u16 n]
instance : Rec encU 1 := ⟨fun _ => rfl, by decide⟩
def wordsOk (ws : List Int) : Prop := ∀ x ∈ ws, 0 ≤ x ∧ x ≤ 65535
def wordV (ws : List Int) (at_ : Nat) : Int := if ws.length = 0 then 0 else ws.getD (at_ % ws.length) 0
theorem word_bd {ws : List Int} (h : wordsOk ws) (n : Nat) : 0 ≤ wordV ws n ∧ wordV ws n ≤ 65535 := by
  unfold wordV
  split
  · omega
  · rename_i hne
    have hlt := Nat.mod_lt n (Nat.pos_of_ne_zero hne)
    rw [List.getD_eq_getElem?_getD, List.getElem?_eq_getElem hlt]
    exact h _ (List.getElem_mem hlt)
theorem word_j (ws : List Int) (a : Option Addr) (c : Nat) (n : Nat) (hw : wordsOk ws) : Cv Try.prog 34 [.slice a ws.length c, I n] (KSl a ws.length c encU ws) (I (wordV ws n)) := by
  refine Cx_of Try.func34 rfl Try.ntmps34 rfl fun w0 M0 => ?_
  refine JC_seq ?_
  refine JC_region ?_
  refine JL_pd rfl (det_assign rfl) ?_
  refine JL_nil ?_
  refine JE_seq ?_
  refine JC_seq ?_
  refine JC_seq ?_
  refine JC_region ?_
  refine JL_pd rfl (det_move rfl) ?_
  refine JL_pd rfl (det_len rfl Try.runUnderlying50) ?_
  refine JL_pd rfl (det_eql rfl rfl) ?_
  refine JL_nil ?_
  refine JE_seq ?_
  -- stop: cond
  refine JC_if rfl (fun h1 => ?_) (fun h1 => ?_)
  · refine JC_seq ?_
    refine JC_region ?_
    refine JL_pd rfl (det_assign rfl) ?_
    refine JL_nil ?_
    refine JE_seq ?_
    refine JC_ret ?_
    refine JE_seq_ret ?_
    -- stop: out
    refine JE_out (.inl rfl) () (results1 Try.results34 (res_tmp rfl)) (by unfold wordV; rw [if_pos (by omega)]) (List.Perm.refl _) (fun _ _ => trivial)
  · have hne : ws.length ≠ 0 := by omega
    have hlt := Nat.mod_lt n (Nat.pos_of_ne_zero hne)
    have hb := hw _ (List.getElem_mem hlt)
    have hm : (n : Int).tmod (ws.length : Int) = ((n % ws.length : Nat) : Int) := by rw [Int.tmod_eq_emod_of_nonneg (by omega)]; rfl
    refine JC_skip ?_
    refine JE_seq ?_
    refine JC_seq ?_
    refine JC_region ?_
    refine JL_pd rfl (det_move rfl) ?_
    refine JL_pd rfl (det_move rfl) ?_
    refine JL_pd rfl (det_move rfl) ?_
    refine JL_pd rfl (det_len rfl Try.runUnderlying50) ?_
    refine JL_pd rfl (det_rem rfl rfl (by omega)) ?_
    refine JL_dt rfl (det_indexAddr rfl rfl (by first | rfl | omega) (by first | assumption | omega | decide) Try.runUnderlying50 Try.sizeOf96) ?_
    refine JL_dt rfl (det_loadE rfl (by first | assumption | omega | decide) Try.isAgg96 rfl rfl) ?_
    refine JL_pd rfl (det_convI rfl Try.runUnderlying96 Try.runUnderlying3 (i64_wrap ⟨by omega, by omega⟩)) ?_
    refine JL_pd rfl (det_assign rfl) ?_
    refine JL_nil ?_
    refine JE_seq ?_
    refine JC_ret ?_
    -- stop: out
    refine JE_out (.inl rfl) () (results1 Try.results34 (res_tmp rfl)) (by unfold wordV; rw [if_neg hne, List.getD_eq_getElem?_getD, List.getElem?_eq_getElem hlt]; rfl) (List.Perm.refl _) (fun _ _ => trivial)
def readyB (h : Hs) (l : List Gr) : Bool := thinB h l && decide (fault h l = 0)
theorem ready_j (x : Hx) (ga : Option Addr) (gc : Nat) (xs : List Gx) : Cv Try.prog 33 [.agg #[I x.h.lanes, .slice x.a x.h.shoes.length x.c], .slice ga xs.length gc] (KAnd (KHx x) (KGs ga gc xs)) (.bool (readyB x.h (gs xs))) := by
  refine Cx_of Try.func33 rfl Try.ntmps33 rfl fun w0 M0 => ?_
  refine JC_seq ?_
  refine JC_region ?_
  refine JL_step rfl rfl rfl (jo_box rfl rfl) fun b2 => ?_
  refine JL_pd rfl (det_assign rfl) ?_
  refine JL_nil ?_
  refine JE_seq ?_
  refine JC_seq ?_
  refine JC_region ?_
  refine JL_dt rfl (det_loadKA rfl Try.isAgg24 Try.sizeOf24 rfl rfl) ?_
  refine JL_pd rfl (det_move rfl) ?_
  refine JL_step rfl rfl rfl (jo_callv rfl rfl Try.call16 rfl (Thin_j x ga gc xs)) fun _ => ?_
  refine JL_pd rfl (det_move rfl) ?_
  -- stop: guard 3
  refine JL_join1 6 4 (.bool (thinB x.h (gs xs) && decide (fault x.h (gs xs) = 0))) (fun hj => ?_) ?_
  · refine JL_split (d0 := 8) rfl (fun q1 => ?_) (fun q1 => ?_)
    · refine JL_guard rfl rfl q1 ?_
      refine JL_dt rfl (det_loadKA rfl Try.isAgg24 Try.sizeOf24 rfl rfl) ?_
      refine JL_guard rfl rfl q1 ?_
      refine JL_pd rfl (det_move rfl) ?_
      refine JL_guard rfl rfl q1 ?_
      refine JL_step rfl rfl rfl (jo_callv rfl rfl Try.call67 rfl (Fault_j x ga gc xs)) fun _ => ?_
      refine JL_guard rfl rfl q1 ?_
      refine JL_pd rfl (det_eql rfl rfl) ?_
      refine JL_pd rfl (det_pick_t rfl q1 rfl) ?_
      refine JL_pd rfl (det_assign rfl) ?_
      exact hj (by kernel_rfl) (stsub_consB rfl (by clear hj; first | rfl | (simp only [q1, Bool.and_true, Bool.true_and, Bool.false_and, Bool.and_false, Bool.or_true, Bool.true_or, Bool.or_false, Bool.false_or, Bool.not_true, Bool.not_false]; done) | (simp [q1]; done) | (simp at q1; done) | (simp [q1] <;> omega) | (exfalso; simp at q1; omega)) stsub_nil)
    · refine JL_skip rfl rfl q1 rfl ?_
      refine JL_skip rfl rfl q1 rfl ?_
      refine JL_skip rfl rfl q1 rfl ?_
      refine JL_skip rfl rfl q1 rfl ?_
      refine JL_pd rfl (det_pick_f rfl q1 rfl) ?_
      refine JL_pd rfl (det_assign rfl) ?_
      exact hj (by kernel_rfl) (stsub_consB rfl (by clear hj; first | rfl | (simp only [q1, Bool.and_true, Bool.true_and, Bool.false_and, Bool.and_false, Bool.or_true, Bool.true_or, Bool.or_false, Bool.false_or, Bool.not_true, Bool.not_false]; done) | (simp [q1]; done) | (simp at q1; done) | (simp [q1] <;> omega) | (exfalso; simp at q1; omega)) stsub_nil)
  refine JL_nil ?_
  refine JE_seq ?_
  refine JC_ret ?_
  -- stop: out
  refine JE_out (.inl rfl) () (results1 Try.results33 (res_tmp rfl)) rfl (List.Perm.refl _) (fun _ _ => trivial)
/-- Plans, with where they lie. -/
structure SL where
  a : Option Addr
  c : Nat
  l : List Int
def encSL (s : SL) : List Value := [.slice s.a s.l.length s.c]
instance : Rec encSL 1 := ⟨fun _ => rfl, by decide⟩
def KSLs (ps : List SL) : World → Prop := fun w => ∀ s ∈ ps, KSl s.a s.l.length s.c encI s.l w
theorem getD_snoc_lt {l : List Int} {v : Int} {m : Nat} (h : m < l.length) : (l ++ [v]).getD m 0 = l.getD m 0 := by
  rw [List.getD_eq_getElem?_getD, List.getD_eq_getElem?_getD, List.getElem?_append_left h]
theorem getD_snoc_eq {l : List Int} {v : Int} {m : Nat} (h : l.length = m) : (l ++ [v]).getD m 0 = v := by
  subst h
  rw [List.getD_eq_getElem?_getD, List.getElem?_append_right (Nat.le_refl _), Nat.sub_self]; rfl
theorem getD_get {l : List Int} {m : Nat} (h : m < l.length) : l.getD m 0 = l[m] := by
  rw [List.getD_eq_getElem?_getD, List.getElem?_eq_getElem h]; rfl
structure GoodP (k : Int) (l : List Gr) (p : List Int) : Prop where
  n : p.length = l.length
  lane : ∀ n ∈ p, -1 ≤ n ∧ n < k
  right : RightZ (l.zip p)
theorem goodP_of {x : Hx} {l : List Gr} {p : List Int} (h : plannedE x.h l p = 0) : GoodP x.h.lanes l p := by
  unfold plannedE at h
  split at h
  · rename_i h1; exact absurd h h1
  · split at h
    · omega
    · split at h
      · omega
      · rename_i h1 h2 h3
        have h2 : isPlan x.h.lanes l p = true := by simpa using h2
        have h3 : rightB l p = true := by simpa using h3
        unfold isPlan at h2
        rw [Bool.and_eq_true, decide_eq_true_eq, List.all_eq_true] at h2
        exact ⟨h2.2, fun n hn => by have := inI_iff.1 (h2.1 n hn); omega, of_decide_eq_true h3⟩
theorem ready_of {h : Hs} {l : List Gr} (q : readyB h l = true) : (h.shoes.length ≤ 14 ∧ l.length ≤ 12 ∧ ∀ g ∈ l, g.feet.length ≤ 10) ∧ fault h l = 0 := by
  unfold readyB at q
  rw [Bool.and_eq_true, decide_eq_true_eq] at q
  exact ⟨thin_lens q.1, q.2⟩
end Go.Proofs.Ytkmaafnbefpdjaa

/- The statements about lend: LendBounds, LendProof. -/
namespace Go.Proofs.Ytkmaafnbefpdjaa
open Go.RowKit Go.Shelf

theorem perm_zip {α : Type} {L l : List α} (h : L.Perm l) : ∀ vs : List Int, vs.length = L.length → ∃ p : List Int, p.length = l.length ∧ (l.zip p).Perm (L.zip vs) := by
  induction h with
  | nil => intro vs hv; exact ⟨[], rfl, by simp⟩
  | cons a h ih =>
    intro vs hv
    cases vs with
    | nil => simp at hv
    | cons v vs =>
      obtain ⟨p, p1, p2⟩ := ih vs (by simpa using hv)
      exact ⟨v :: p, by simp [p1], p2.cons _⟩
  | swap a b l =>
    intro vs hv
    match vs, hv with
    | v :: u :: vs, hv => exact ⟨u :: v :: vs, by simpa using hv, List.Perm.swap _ _ _⟩
  | trans h1 h2 ih1 ih2 =>
    intro vs hv
    obtain ⟨p, p1, p2⟩ := ih1 vs hv
    obtain ⟨q, q1, q2⟩ := ih2 p p1
    exact ⟨q, q1, q2.trans p2⟩
theorem serve_exists (k : Nat) (l : List Gr) (hV : ∀ g ∈ l, VGr g) : ∃ p, ServeFacts k l p := by
  have hp := List.mergeSort_perm l fun a b => decide (a.hi ≤ b.hi)
  obtain ⟨p, p1, p2⟩ := perm_zip hp (gre (List.replicate k (-1)) (l.mergeSort fun a b => decide (a.hi ≤ b.hi))) (by rw [gre_len])
  have hs := List.pairwise_mergeSort (le := fun a b : Gr => decide (a.hi ≤ b.hi)) (fun a b c h1 h2 => by simp at *; omega) (fun a b => by simp; omega) l
  exact ⟨p, serve_facts hV ⟨p1, _, hs.imp fun h => of_decide_eq_true h, p2⟩⟩
set_option maxRecDepth 100000 in
theorem Rising_j (a : Option Addr) (cap : Nat) (xs : List Int) (most : Int) :
    Cv Try.prog 44 [.slice a xs.length cap, I most] (KSl a xs.length cap encI xs) (.bool (risB (fun n => inI n 0 most) xs)) := by
  refine Cx_of Try.func44 rfl Try.ntmps44 rfl fun w0 M0 => ?_
  refine JC_seq ?_
  refine JC_region ?_
  refine JL_pd rfl (det_assign rfl) ?_
  refine JL_nil ?_
  refine JE_seq ?_
  refine JC_seq ?_
  refine JC_seq ?_
  refine JC_region ?_
  refine JL_pd rfl (det_assign rfl) ?_
  refine JL_nil ?_
  refine JE_seq ?_
  refine JC_block ?_
  -- stop: loop
  refine JC_pure (p := xs.length ≤ 9223372036854775807) (by intro w h; exact h.1.bd) fun hz => ?_
  refine JC_loopF (γ := Nat) (fun i => i ≤ xs.length ∧ (xs.take i).all (fun n => inI n 0 most) = true ∧ (xs.take i).Pairwise (· < ·)) (fun i => [(5, I i)]) (fun _ => []) (fun i => xs.length - i) 0 ⟨Nat.zero_le _, rfl, List.Pairwise.nil⟩ (stsub_consI rfl rfl stsub_nil) ht_nil ?_
  rintro i ⟨hi, hall, hup⟩ K hK
  dsimp only [List.cons_append, List.nil_append]
  refine JC_seq ?_
  refine JC_seq ?_
  refine JC_region ?_
  refine JL_pd rfl (det_move rfl) ?_
  refine JL_pd rfl (det_move rfl) ?_
  refine JL_pd rfl (det_len rfl Try.runUnderlying22) ?_
  refine JL_pd rfl (det_lss rfl rfl) ?_
  refine JL_nil ?_
  refine JE_seq ?_
  -- stop: cond
  refine JC_if rfl (fun h1 => ?_) (fun h1 => ?_)
  · have hi2 : i < xs.length := by omega
    have hal2 : inI xs[i] 0 most = true → (xs.take (i + 1)).all (fun n => inI n 0 most) = true := fun h => by rw [take_snoc hi2, List.all_append, hall]; simp [h]
    by_cases c1 : inI xs[i] 0 most = true
    · by_cases c2 : i = 0
      · subst c2
        refine JC_skip ?_
        refine JE_seq ?_
        refine JC_seq ?_
        refine JC_block ?_
        refine JC_seq ?_
        refine JC_draw [] (by kernel_rfl) ?_
        refine JA_pd (i := 0) rfl (by kernel_rfl) rfl rfl (det_move rfl) ?_
        refine JA_pd (i := 1) rfl (by kernel_rfl) rfl rfl (det_move rfl) ?_
        refine JA_dt (i := 2) rfl (by kernel_rfl) (by kernel_rfl) rfl rfl (det_indexAddr rfl rfl (by first | rfl | omega) (by first | assumption | omega | decide) Try.runUnderlying22 Try.sizeOf3) ?_
        refine JA_dt (i := 3) rfl (by kernel_rfl) (by kernel_rfl) rfl rfl (det_loadE rfl (by first | assumption | omega | decide) Try.isAgg3 rfl rfl) ?_
        refine JA_pd (i := 4) rfl (by kernel_rfl) rfl rfl (det_move rfl) ?_
        refine JA_one (i := 5) (by kernel_rfl) rfl rfl (jo_callv rfl rfl Try.call31 rfl (In_j _ _ _)) (fun _ => ⟨hsub_refl, fun _ h => h⟩) fun _ => ?_
        refine JA_pd (i := 6) rfl (by kernel_rfl) rfl rfl (det_not rfl) ?_
        refine JA_pd (i := 7) rfl (by kernel_rfl) rfl rfl (det_move rfl) ?_
        -- stop: guard 7
        refine JA_is (d0 := 19) false rfl (by rw [c1]; rfl) (fun g1 => ?_)
        refine JA_gpd (i := 8) rfl (by kernel_rfl) rfl rfl rfl rfl g1 (det_move rfl) ?_
        refine JA_gpd (i := 9) rfl (by kernel_rfl) rfl rfl rfl rfl g1 (det_gtr rfl rfl) ?_
        refine JA_gpd (i := 10) rfl (by kernel_rfl) rfl rfl rfl rfl g1 (det_move rfl) ?_
        -- stop: guard 10
        refine JA_is (d0 := 22) false rfl (by rfl) (fun g2 => ?_)
        refine JA_skip (i := 11) rfl (by kernel_rfl) rfl rfl rfl rfl g2 ?_
        refine JA_skip (i := 12) rfl (by kernel_rfl) rfl rfl rfl rfl g2 ?_
        refine JA_skip (i := 13) rfl (by kernel_rfl) rfl rfl rfl rfl g2 ?_
        refine JA_skip (i := 14) rfl (by kernel_rfl) rfl rfl rfl rfl g2 ?_
        refine JA_skip (i := 15) rfl (by kernel_rfl) rfl rfl rfl rfl g2 ?_
        refine JA_skip (i := 16) rfl (by kernel_rfl) rfl rfl rfl rfl g2 ?_
        refine JA_skip (i := 17) rfl (by kernel_rfl) rfl rfl rfl rfl g2 ?_
        refine JA_skip (i := 18) rfl (by kernel_rfl) rfl rfl rfl rfl g2 ?_
        refine JA_skip (i := 19) rfl (by kernel_rfl) rfl rfl rfl rfl g2 ?_
        refine JA_skip (i := 20) rfl (by kernel_rfl) rfl rfl rfl rfl g2 ?_
        refine JA_gpd (i := 21) rfl (by kernel_rfl) rfl rfl rfl rfl g1 (det_pick_f rfl g2 rfl) ?_
        refine JA_pd (i := 22) rfl (by kernel_rfl) rfl rfl (det_pick_f rfl g1 rfl) ?_
        refine JA_done (by kernel_rfl) ?_
        refine JE_seq ?_
        refine JC_condF rfl rfl ?_
        refine JC_skip ?_
        refine JE_block ?_
        refine JE_seq ?_
        refine JC_region ?_
        refine JL_pd rfl (det_move rfl) ?_
        refine JL_pd rfl (det_add rfl rfl ⟨by omega, by omega⟩) ?_
        refine JL_pd rfl (det_assign rfl) ?_
        refine JL_nil ?_
        -- stop: end
        refine JE_roundF hK (0 + 1) ⟨by omega, hal2 c1, up_snoc hi2 hup (.inl rfl)⟩ (by omega) (stsub_consI rfl (by omega) stsub_nil) ht_nil
      · obtain ⟨j, rfl⟩ : ∃ j, i = j + 1 := ⟨i - 1, by omega⟩
        have hj2 : j < xs.length := by omega
        refine JC_skip ?_
        refine JE_seq ?_
        refine JC_seq ?_
        refine JC_block ?_
        refine JC_seq ?_
        refine JC_draw [] (by kernel_rfl) ?_
        refine JA_pd (i := 0) rfl (by kernel_rfl) rfl rfl (det_move rfl) ?_
        refine JA_pd (i := 1) rfl (by kernel_rfl) rfl rfl (det_move rfl) ?_
        refine JA_dt (i := 2) rfl (by kernel_rfl) (by kernel_rfl) rfl rfl (det_indexAddr rfl rfl (by first | rfl | omega) (by first | assumption | omega | decide) Try.runUnderlying22 Try.sizeOf3) ?_
        refine JA_dt (i := 3) rfl (by kernel_rfl) (by kernel_rfl) rfl rfl (det_loadE rfl (by first | assumption | omega | decide) Try.isAgg3 rfl rfl) ?_
        refine JA_pd (i := 4) rfl (by kernel_rfl) rfl rfl (det_move rfl) ?_
        refine JA_one (i := 5) (by kernel_rfl) rfl rfl (jo_callv rfl rfl Try.call31 rfl (In_j _ _ _)) (fun _ => ⟨hsub_refl, fun _ h => h⟩) fun _ => ?_
        refine JA_pd (i := 6) rfl (by kernel_rfl) rfl rfl (det_not rfl) ?_
        refine JA_pd (i := 7) rfl (by kernel_rfl) rfl rfl (det_move rfl) ?_
        -- stop: guard 7
        refine JA_is (d0 := 19) false rfl (by rw [c1]; rfl) (fun g1 => ?_)
        refine JA_gpd (i := 8) rfl (by kernel_rfl) rfl rfl rfl rfl g1 (det_move rfl) ?_
        refine JA_gpd (i := 9) rfl (by kernel_rfl) rfl rfl rfl rfl g1 (det_gtr rfl rfl) ?_
        refine JA_gpd (i := 10) rfl (by kernel_rfl) rfl rfl rfl rfl g1 (det_move rfl) ?_
        -- stop: guard 10
        refine JA_is (d0 := 22) true rfl (by exact decide_eq_true (by omega)) (fun g2 => ?_)
        refine JA_gpd (i := 11) rfl (by kernel_rfl) rfl rfl rfl rfl g2 (det_move rfl) ?_
        refine JA_gpd (i := 12) rfl (by kernel_rfl) rfl rfl rfl rfl g2 (det_move rfl) ?_
        refine JA_gdt (i := 13) rfl (by kernel_rfl) (by kernel_rfl) rfl rfl rfl rfl g2 (det_indexAddr rfl rfl (by first | rfl | omega) (by first | assumption | omega | decide) Try.runUnderlying22 Try.sizeOf3) ?_
        refine JA_gdt (i := 14) rfl (by kernel_rfl) (by kernel_rfl) rfl rfl rfl rfl g2 (det_loadE rfl (by first | assumption | omega | decide) Try.isAgg3 rfl rfl) ?_
        refine JA_gpd (i := 15) rfl (by kernel_rfl) rfl rfl rfl rfl g2 (det_move rfl) ?_
        refine JA_gpd (i := 16) rfl (by kernel_rfl) rfl rfl rfl rfl g2 (det_move rfl) ?_
        refine JA_gpd (i := 17) rfl (by kernel_rfl) rfl rfl rfl rfl g2 (det_sub rfl rfl ⟨by omega, by omega⟩) ?_
        refine JA_gdt (i := 18) rfl (by kernel_rfl) (by kernel_rfl) rfl rfl rfl rfl g2 (det_indexAddr (i := j) rfl rfl (by omega) (by omega) Try.runUnderlying22 Try.sizeOf3) ?_
        refine JA_gdt (i := 19) rfl (by kernel_rfl) (by kernel_rfl) rfl rfl rfl rfl g2 (det_loadE rfl (by first | assumption | omega | decide) Try.isAgg3 rfl rfl) ?_
        refine JA_gpd (i := 20) rfl (by kernel_rfl) rfl rfl rfl rfl g2 (det_leq rfl rfl) ?_
        refine JA_gpd (i := 21) rfl (by kernel_rfl) rfl rfl rfl rfl g1 (det_pick_t rfl g2 rfl) ?_
        refine JA_pd (i := 22) rfl (by kernel_rfl) rfl rfl (det_pick_f rfl g1 rfl) ?_
        refine JA_done (by kernel_rfl) ?_
        refine JE_seq ?_
        -- stop: cond
        refine JC_cond rfl (fun h3 => ?_) (fun h3 => ?_)
        · refine JC_seq ?_
          refine JC_region ?_
          refine JL_pd rfl (det_assign rfl) ?_
          refine JL_nil ?_
          refine JE_seq ?_
          refine JC_ret ?_
          refine JE_block_ret ?_
          refine JE_seq_ret ?_
          refine JE_then_ret ?_
          refine JE_block_ret ?_
          refine JE_seq_ret ?_
          -- stop: out
          have := of_decide_eq_true h3
          refine JE_out (.inl rfl) () (results1 Try.results44 (res_tmp rfl)) (by have := up_no hi2 rfl this; unfold risB; rw [decide_eq_false this, Bool.and_false]) (List.Perm.refl _) (fun _ _ => trivial)
        · refine JC_skip ?_
          refine JE_block ?_
          refine JE_seq ?_
          refine JC_region ?_
          refine JL_pd rfl (det_move rfl) ?_
          refine JL_pd rfl (det_add rfl rfl ⟨by omega, by omega⟩) ?_
          refine JL_pd rfl (det_assign rfl) ?_
          refine JL_nil ?_
          -- stop: end
          have := of_decide_eq_false h3
          refine JE_roundF hK (j + 1 + 1) ⟨by omega, hal2 c1, up_snoc hi2 hup (.inr ⟨j, by omega, rfl, by omega⟩)⟩ (by omega) (stsub_consI rfl (by omega) stsub_nil) ht_nil
    · refine JC_skip ?_
      refine JE_seq ?_
      refine JC_seq ?_
      refine JC_block ?_
      refine JC_seq ?_
      refine JC_draw [] (by kernel_rfl) ?_
      refine JA_pd (i := 0) rfl (by kernel_rfl) rfl rfl (det_move rfl) ?_
      refine JA_pd (i := 1) rfl (by kernel_rfl) rfl rfl (det_move rfl) ?_
      refine JA_dt (i := 2) rfl (by kernel_rfl) (by kernel_rfl) rfl rfl (det_indexAddr rfl rfl (by first | rfl | omega) (by first | assumption | omega | decide) Try.runUnderlying22 Try.sizeOf3) ?_
      refine JA_dt (i := 3) rfl (by kernel_rfl) (by kernel_rfl) rfl rfl (det_loadE rfl (by first | assumption | omega | decide) Try.isAgg3 rfl rfl) ?_
      refine JA_pd (i := 4) rfl (by kernel_rfl) rfl rfl (det_move rfl) ?_
      refine JA_one (i := 5) (by kernel_rfl) rfl rfl (jo_callv rfl rfl Try.call31 rfl (In_j _ _ _)) (fun _ => ⟨hsub_refl, fun _ h => h⟩) fun _ => ?_
      refine JA_pd (i := 6) rfl (by kernel_rfl) rfl rfl (det_not rfl) ?_
      refine JA_pd (i := 7) rfl (by kernel_rfl) rfl rfl (det_move rfl) ?_
      -- stop: guard 7
      refine JA_is (d0 := 19) true rfl (by simpa using c1) (fun g1 => ?_)
      refine JA_skip (i := 8) rfl (by kernel_rfl) rfl rfl rfl rfl g1 ?_
      refine JA_skip (i := 9) rfl (by kernel_rfl) rfl rfl rfl rfl g1 ?_
      refine JA_skip (i := 10) rfl (by kernel_rfl) rfl rfl rfl rfl g1 ?_
      refine JA_skipU (i := 11) rfl (by kernel_rfl) rfl rfl rfl rfl ?_
      refine JA_skipU (i := 12) rfl (by kernel_rfl) rfl rfl rfl rfl ?_
      refine JA_skipU (i := 13) rfl (by kernel_rfl) rfl rfl rfl rfl ?_
      refine JA_skipU (i := 14) rfl (by kernel_rfl) rfl rfl rfl rfl ?_
      refine JA_skipU (i := 15) rfl (by kernel_rfl) rfl rfl rfl rfl ?_
      refine JA_skipU (i := 16) rfl (by kernel_rfl) rfl rfl rfl rfl ?_
      refine JA_skipU (i := 17) rfl (by kernel_rfl) rfl rfl rfl rfl ?_
      refine JA_skipU (i := 18) rfl (by kernel_rfl) rfl rfl rfl rfl ?_
      refine JA_skipU (i := 19) rfl (by kernel_rfl) rfl rfl rfl rfl ?_
      refine JA_skipU (i := 20) rfl (by kernel_rfl) rfl rfl rfl rfl ?_
      refine JA_skip (i := 21) rfl (by kernel_rfl) rfl rfl rfl rfl g1 ?_
      refine JA_pd (i := 22) rfl (by kernel_rfl) rfl rfl (det_pick_t rfl g1 rfl) ?_
      refine JA_done (by kernel_rfl) ?_
      refine JE_seq ?_
      refine JC_condT rfl rfl ?_
      refine JC_seq ?_
      refine JC_region ?_
      refine JL_pd rfl (det_assign rfl) ?_
      refine JL_nil ?_
      refine JE_seq ?_
      refine JC_ret ?_
      refine JE_block_ret ?_
      refine JE_seq_ret ?_
      refine JE_then_ret ?_
      refine JE_block_ret ?_
      refine JE_seq_ret ?_
      -- stop: out
      refine JE_out (.inl rfl) () (results1 Try.results44 (res_tmp rfl)) (by unfold risB; rw [List.all_eq_false.2 ⟨xs[i], List.getElem_mem hi2, c1⟩, Bool.false_and]) (List.Perm.refl _) (fun _ _ => trivial)
  · refine JC_exit ?_
    refine JE_seq_exit ?_
    refine JE_then_exit ?_
    refine JE_block_here ?_
    refine JE_seq ?_
    refine JC_seq ?_
    refine JC_region ?_
    refine JL_pd rfl (det_assign rfl) ?_
    refine JL_nil ?_
    refine JE_seq ?_
    refine JC_ret ?_
    -- stop: out
    obtain rfl : i = xs.length := by omega
    rw [List.take_length] at hall hup
    refine JE_out (.inl rfl) () (results1 Try.results44 (res_tmp rfl)) (by unfold risB; rw [hall, decide_eq_true hup]; rfl) (List.Perm.refl _) (fun _ _ => trivial)
end Go.Proofs.Ytkmaafnbefpdjaa

/- The statements about lend: LendLater, plain words; a list of the call's own. -/
namespace Go.Proofs.Ytkmaafnbefpdjaa
open Go.RowKit Go.Shelf

theorem right_set {l : List Gr} {p : List Int} {k : Nat} (hk : k < l.length) (hn : p.length = l.length) (hR : RightZ (l.zip p)) (g' : Gr) (n : Int) :
    RightZ ((l.set k g').zip (p.set k n)) ↔ ∀ i (hi : i < l.length), i ≠ k → apartP (l[i], p[i]'(by omega)) (g', n) := by
  have hlen : ((l.set k g').zip (p.set k n)).length = l.length := by simp [List.length_zip]; omega
  have hget : ∀ i (hi : i < l.length), ((l.set k g').zip (p.set k n))[i]'(by omega) = if i = k then (g', n) else (l[i], p[i]'(by omega)) := fun i hi => by
    rw [List.getElem_zip, List.getElem_set, List.getElem_set]
    by_cases e : k = i
    · subst e; simp
    · rw [if_neg e, if_neg e, if_neg fun h => e h.symm]
  have hzl : (l.zip p).length = l.length := by rw [List.length_zip]; omega
  constructor
  · intro h i hi hne
    rcases Nat.lt_or_gt_of_ne hne with hlt | hlt
    · have := List.pairwise_iff_getElem.1 h i k (by omega) (by omega) hlt
      rw [hget i hi, hget k hk, if_neg hne, if_pos rfl] at this
      exact this
    · have := List.pairwise_iff_getElem.1 h k i (by omega) (by omega) hlt
      rw [hget i hi, hget k hk, if_neg hne, if_pos rfl] at this
      exact apartP_symm this
  · intro h
    refine List.pairwise_iff_getElem.2 fun i j hi hj hij => ?_
    rw [hlen] at hi hj
    rw [hget i hi, hget j hj]
    by_cases e1 : i = k
    · rw [if_pos e1, if_neg (by omega)]
      exact apartP_symm (h j hj (by omega))
    · rw [if_neg e1]
      by_cases e2 : j = k
      · rw [if_pos e2]; exact h i hi e1
      · rw [if_neg e2]
        have := List.pairwise_iff_getElem.1 hR i j (by omega) (by omega) hij
        rwa [List.getElem_zip, List.getElem_zip] at this
/-- A group as long, at another hour. -/
def moved (g : Gr) (at_ : Int) : Gr := ⟨at_, at_, at_ + (g.hi - g.fr), g.feet⟩
theorem free_set {l : List Gr} {p : List Int} {k : Nat} (hk : k < l.length) (hn : p.length = l.length) (hkp : p[k]'(by omega) = -1) (hV : ∀ g ∈ l, VGr g) (n : Int) (h0 : 0 ≤ n) (a : Int) :
    freeW (tk (l.zip p)) l[k] n a = true ↔ ∀ i (hi : i < l.length), i ≠ k → apartP (l[i], p[i]'(by omega)) (moved l[k] (l[k].fr + a), n) := by
  have hzl : (l.zip p).length = l.length := by rw [List.length_zip]; omega
  have vk := hV _ (List.getElem_mem hk)
  have := vk.fl
  have := vk.lh
  rw [free_apart h0]
  constructor
  · rintro h i hi hne ⟨q1, q2, q3⟩
    have vi := hV _ (List.getElem_mem hi)
    have := vi.fl
    have := vi.lh
    unfold ovl moved at q3
    simp only at q1 q2 q3
    have hz := h (l[i], p[i]'(by omega)) (by rw [← List.getElem_zip (h := by omega)]; exact List.getElem_mem _) q2
    exact hz (max l[i].fr (l[k].fr + a) - a) (inI_iff.2 (by omega)) (inI_iff.2 (by simp only; omega))
  · intro h z hz e t ht hs
    obtain ⟨i, hi, rfl⟩ := List.mem_iff_getElem.1 hz
    rw [hzl] at hi
    rw [List.getElem_zip] at e hs
    simp only at e hs
    by_cases hne : i = k
    · subst hne; omega
    · have s1 := inI_iff.1 ht
      have s2 := inI_iff.1 hs
      exact h i hi hne ⟨by simp only; omega, e, by unfold ovl moved; simp only; omega⟩
theorem laterN_spec (m : Int × Int → Bool) (k : Nat) (g : Gr) : ∀ N : Nat, (laterN m k g N = none ∧ ∀ A, A < N → ∀ n, n < k → freeW m g (n : Int) A = false) ∨
    ∃ A n : Nat, laterN m k g N = some ((n : Int), g.fr + A) ∧ A < N ∧ n < k ∧ freeW m g n A = true ∧ (∀ n', n' < n → freeW m g (n' : Int) A = false) ∧ ∀ A', A' < A → ∀ n', n' < k → freeW m g (n' : Int) A' = false
  | 0 => .inl ⟨rfl, fun A h => by omega⟩
  | N + 1 => by
    rcases laterN_spec m k g N with ⟨h1, h2⟩ | ⟨A, n, h1, h2, h3⟩
    · have hs := laterN_snoc h1
      cases hl : laneV m k g N with
      | none =>
        rw [hl] at hs
        refine .inl ⟨hs, fun A hA n hn => ?_⟩
        by_cases e : A = N
        · subst e
          have := List.find?_eq_none.1 hl n (List.mem_range.2 hn)
          simpa using this
        · exact h2 A (by omega) n hn
      | some n =>
        rw [hl] at hs
        obtain ⟨q1, q2⟩ := List.find?_range_eq_some.1 hl
        exact .inr ⟨N, n, hs, by omega, List.mem_range.1 q2.1, q1, fun n' hn' => by simpa using q2.2 n' hn', fun A' hA' n' hn' => h2 A' hA' n' hn'⟩
    · exact .inr ⟨A, n, laterN_mono h1 (by omega), by omega, h3⟩
theorem lList_o (xs : List Int) (a : Option Addr) (cap : Nat) (hx : xs.length ≤ 1000000) : Cx Try.prog 23 [.slice a xs.length cap] [] (KSl a xs.length cap encI xs) (fun v : Value => v) (fun v => [ow v 3 1 xs.length (xs.flatMap encI)]) (fun _ => KTrue) := by
  refine Cx_of Try.func23 rfl Try.ntmps23 rfl fun w0 M0 => ?_
  refine JC_seq ?_
  refine JC_region ?_
  refine JL_pd rfl (det_assign rfl) ?_
  refine JL_nil ?_
  refine JE_seq ?_
  refine JC_seq ?_
  refine JC_region ?_
  refine JL_pd rfl (det_move rfl) ?_
  -- stop: op  1 t4 := (call (Call (builtin append) ((slice none 0 0) t3) (22 22)))   <0>   11
  refine JL_nilS 3 1 ?_
  refine JL_step rfl rfl rfl (jo_appendK (e := encI) el_22 rfl rfl encI_one (by simpa using hx)) fun v => ?_
  refine JL_pd rfl (det_assign rfl) ?_
  refine JL_nil ?_
  refine JE_seq ?_
  refine JC_ret ?_
  -- stop: out
  simp only [Nat.zero_add, List.nil_append]
  refine JE_out (.inl rfl) v (results1 Try.results23 (res_tmp rfl)) rfl (List.Perm.refl _) (fun _ _ => trivial)
theorem set_mid {α : Type} : ∀ (A B C : List α) (c : Nat) (v : α), c < B.length → (A ++ B ++ C).set (A.length + c) v = A ++ B.set c v ++ C
  | [], B, C, c, v, h => by simp [List.set_append_left _ _ h]
  | a :: A, B, C, c, v, h => by
    have := set_mid A B C c v h
    simp only [List.cons_append, List.length_cons]
    rw [show A.length + 1 + c = (A.length + c) + 1 by omega, List.set_cons_succ, this]
theorem splice_mid : ∀ (vs A B C : List Value) (c : Nat), c + vs.length ≤ B.length → splice (A ++ B ++ C) (A.length + c) vs = A ++ splice B c vs ++ C
  | [], A, B, C, c, _ => rfl
  | v :: vs, A, B, C, c, h => by
    simp only [List.length_cons] at h
    rw [splice, splice, set_mid A B C c v (by omega), Nat.add_assoc]
    exact splice_mid vs A (B.set c v) C (c + 1) (by rw [List.length_set]; omega)
/-- A part of a record put anew. -/
theorem splice_in {α : Type} (enc : α → List Value) {z : Nat} [hz : Rec enc z] (xs : List α) (i : Nat) (y : α) (c : Nat) (vs : List Value) (hi : i < xs.length) (hc : c + vs.length ≤ z) (hy : splice (enc xs[i]) c vs = enc y) : splice (xs.flatMap enc) (i * z + c) vs = (xs.set i y).flatMap enc := by
  have e : xs.flatMap enc = (xs.take i).flatMap enc ++ enc xs[i] ++ (xs.drop (i + 1)).flatMap enc := by
    conv => lhs; rw [← List.take_append_drop i xs, List.drop_eq_getElem_cons hi, List.flatMap_append, List.flatMap_cons, ← List.append_assoc]
  have hl : ((xs.take i).flatMap enc).length = i * z := by rw [flat_len, List.length_take, Nat.min_eq_left (by omega)]
  rw [e, ← hl, splice_mid _ _ _ _ _ (by rw [hz.len]; exact hc), hy, List.set_eq_take_append_cons_drop, if_pos hi, List.flatMap_append, List.flatMap_cons, ← List.append_assoc]
end Go.Proofs.Ytkmaafnbefpdjaa

/- Steps of a walk: a whole array that lies in a block, as a slice. Nothing is asked. -/
namespace Go.Proofs.Ytkmaafnbefpdjaa
open Go.RowKit Go.Shelf

section
variable {P : Program} {st : Sto} {d : Option Nat} {ty : TypeId} {pos : String} {af : Array Edge} {g : Option (Nat × Bool)}
theorem det_sliceArr {x : Operand} {t E b off n z : Nat} (hx : opnd st x = some (.pointer (some ⟨b, off, none⟩)))
    (hu : ∀ w, (underlying t).run P w = .ok (.array n E) w) (hS : ∀ w, (sizeOf E).run P w = .ok z w) : PDet P ⟨d, .slice t x none none none, ty, pos, af, g⟩ st (.slice (some ⟨b, off, none⟩) n n) := fun N ac w hst => by
  simp [execOp, hst.eval hx, Instr.sliceAt, Instr.sliceBounds, Sem.run_bind, Sem.run_pure, Result.andThen, hu, hS, Instr.sureAddr, addr_add]
end
end Go.Proofs.Ytkmaafnbefpdjaa

/- Walks of lend: fittings. -/
namespace Go.Proofs.Ytkmaafnbefpdjaa
open Go.RowKit Go.Shelf Go.Proofs Go.Lib
open Go.Sort hiding Below

def cfF (l : List Int) (x y : Nat) : Int := l[x]! - l[y]!
theorem cfF_lt (l : List Int) (x y : Nat) : cfF l x y < 0 ↔ l[x]! < l[y]! := by unfold cfF; omega
theorem swoF (l : List Int) (n : Nat) : SWO (ltOf fun x y : { i : Nat // i < n } => cfF l x.1 y.1) where
  irrefl x := decide_eq_false (by rw [cfF_lt]; omega)
  trans x y z h1 h2 := by
    have h1 := (cfF_lt _ _ _).1 (of_decide_eq_true h1)
    have h2 := (cfF_lt _ _ _).1 (of_decide_eq_true h2)
    exact decide_eq_true ((cfF_lt _ _ _).2 (by omega))
  ntrans x y z h1 h2 := by
    have h1 := mt (cfF_lt _ _ _).2 (of_decide_eq_false h1)
    have h2 := mt (cfF_lt _ _ _).2 (of_decide_eq_false h2)
    exact decide_eq_false (mt (cfF_lt _ _ _).1 (by omega))
theorem flatI_get (l : List Int) (i : Nat) (h : i < l.length) : (l.flatMap encI)[i]? = some (I l[i]) := by
  rw [show encI = fun v => [I v] from rfl, flat1 (fun v : Int => I v), List.getElem?_map, List.getElem?_eq_getElem h]; rfl
theorem fit_cmp (l : List Int) (hV : ∀ f ∈ l, 0 ≤ f ∧ f ≤ 9) (fb : Nat) (a : Option Addr) (c : Nat) (W : World) (h0 : Box W fb [.slice a l.length c]) (h1 : KSl a l.length c encI l W) (x y : Nat) (hx : x < l.length) (hy : y < l.length) :
    Calls Try.prog 96 (#[I x, I y] ++ [pt fb].toArray) W fun e w' => e = .returned (I (cfF l x y)) ∧ Grown W w' := by
  have hne : l.flatMap encI ≠ [] := fun e => by
    have := flat_len encI l
    rw [e] at this; simp at this; omega
  obtain ⟨sb, so, rfl, hc⟩ := cell_of h1 hne
  have := hV _ (List.getElem_mem hx)
  have := hV _ (List.getElem_mem hy)
  have hr := fit1_any x y l.length c fb sb so l[x] l[y] hx hy (by omega) (by omega) W (fun q os => cell_grown h0.lt (h0.cell 0 rfl) q os)
    (fun q os => hc x _ (flatI_get l x hx) q os) (fun q os => hc y _ (flatI_get l y hy) q os)
  unfold cfF
  rw [getElem!_pos l x hx, getElem!_pos l y hy]
  exact hr
def encF (f : Nat) : List Value := [.func (.func f) #[] #[]]
instance : Rec encF 1 := ⟨fun _ => rfl, by decide⟩
theorem own_j (f : Int) : Cv Try.prog 116 [I f] KTrue (I f) := by
  refine Cx_of Try.func116 rfl Try.ntmps116 rfl fun w0 M0 => ?_
  refine JC_seq ?_
  refine JC_region ?_
  refine JL_pd rfl (det_assign rfl) ?_
  refine JL_nil ?_
  refine JE_seq ?_
  refine JC_seq ?_
  refine JC_region ?_
  refine JL_pd rfl (det_move rfl) ?_
  refine JL_pd rfl (det_assign rfl) ?_
  refine JL_nil ?_
  refine JE_seq ?_
  refine JC_ret ?_
  refine JE_out (.inl rfl) () (results1 Try.results116 (res_tmp rfl)) ?_ (List.Perm.refl _) (fun _ _ => trivial)
  rfl
theorem next_j (f : Int) (h : 0 ≤ f ∧ f ≤ 9) : Cv Try.prog 117 [I f] KTrue (I (f + 1)) := by
  refine Cx_of Try.func117 rfl Try.ntmps117 rfl fun w0 M0 => ?_
  refine JC_seq ?_
  refine JC_region ?_
  refine JL_pd rfl (det_assign rfl) ?_
  refine JL_nil ?_
  refine JE_seq ?_
  refine JC_seq ?_
  refine JC_region ?_
  refine JL_pd rfl (det_move rfl) ?_
  refine JL_pd rfl (det_add rfl rfl ⟨by omega, by omega⟩) ?_
  refine JL_pd rfl (det_assign rfl) ?_
  refine JL_nil ?_
  refine JE_seq ?_
  refine JC_ret ?_
  refine JE_out (.inl rfl) () (results1 Try.results117 (res_tmp rfl)) ?_ (List.Perm.refl _) (fun _ _ => trivial)
  rfl
theorem wears_j : Cr Try.prog 97 [] KTrue (fun b : Nat => .slice (some ⟨b, 0, none⟩) 2 2) (fun b => KSl (some ⟨b, 0, none⟩) 2 2 encF [116, 117]) := by
  refine Cx_of Try.func97 rfl Try.ntmps97 rfl fun w0 M0 => ?_
  refine JC_seq ?_
  refine JC_region ?_
  refine JL_pd rfl (det_assign rfl) ?_
  refine JL_nil ?_
  refine JE_seq ?_
  refine JC_seq ?_
  refine JC_region ?_
  refine JL_pd rfl (det_build rfl (bld_129_0 _ _ _)) ?_
  refine JL_pd rfl (det_build rfl (bld_129_0 _ _ _)) ?_
  refine JL_step rfl rfl rfl (jo_buildSlice rfl (bsl_125_2_0_1 _ _ _ _ _ _)) fun b3 => ?_
  refine JL_pd rfl (det_assign rfl) ?_
  refine JL_nil ?_
  refine JE_seq ?_
  refine JC_ret ?_
  -- stop: out
  refine JE_lit (enc := encF) b3 2 [116, 117] noFp rfl rfl (by decide) ?_
  refine JE_out (.inl rfl) b3 (results1 Try.results97 (res_tmp rfl)) rfl (List.Perm.refl _) (fun w h => h.1)
theorem wearS_own {left : List Int} {f : Int} (h0 : 0 ≤ f ∧ f ≤ 9) (h : 0 < shoe left f) : wearS left f = f := by
  unfold wearS; rw [if_pos ⟨inI_iff.2 h0, h⟩]
theorem wearS_next {left : List Int} {f : Int} (h0 : ¬ 0 < shoe left f) (h1 : f + 1 ≤ 9 ∧ 0 ≤ f) (h : 0 < shoe left (f + 1)) : wearS left f = f + 1 := by
  unfold wearS; rw [if_neg (fun q => h0 q.2), if_pos ⟨inI_iff.2 (by omega), h⟩]
theorem wearS_none {left : List Int} {f : Int} (h0 : ¬ 0 < shoe left f) (h : ¬ (inI (f + 1) 0 9 = true ∧ 0 < shoe left (f + 1))) : wearS left f = -1 := by
  unfold wearS; rw [if_neg (fun q => h0 q.2), if_neg h]
theorem leftA_bd : ∀ (L left : List Int), left.length = 10 → (∀ s : Nat, s < 10 → 0 ≤ shoe left s ∧ shoe left s ≤ 20) → ∀ s : Nat, s < 10 → 0 ≤ shoe (leftA left L) s ∧ shoe (leftA left L) s ≤ 20
  | [], _, _, h => h
  | f :: L, left, hn, h => leftA_bd L (left' left f) (by rw [left'_len, hn]) fun s hs => by
    have q := h s hs
    rw [shoe_left' hn f s]
    split
    · rename_i e
      have := (wearS_pos (left := left) (f := f) (by omega)).1
      rw [e] at this; omega
    · omega
theorem splice_full {cs vs : List Value} (h : cs.length = vs.length) : splice cs 0 vs = vs := by simpa using splice_at vs [] cs [] h
set_option maxRecDepth 100000 in
set_option maxHeartbeats 1000000 in
theorem fit_jo (x : Hx) (a : Option Addr) (c : Nat) (feet : List Int) (hv : VHs x.h) (hl : feet.length ≤ 100) (hf : ∀ f ∈ feet, 0 ≤ f ∧ f ≤ 9) : Cr Try.prog 75 [.agg #[I x.h.lanes, .slice x.a x.h.shoes.length x.c], .slice a feet.length c] (KAnd (KHx x) (KSl a feet.length c encI feet)) (fun q : Nat × { p : List Int // FitOk x.h.shoes feet p } => .slice (some ⟨q.1, 0, none⟩) feet.length feet.length)
    (fun q => KSl (some ⟨q.1, 0, none⟩) feet.length feet.length encI q.2.1) := by
  have hn := hv.n
  have hfc : (x.h.shoes.flatMap encI).length = 10 := by rw [flat_len, hn]
  refine Cx_of Try.func75 rfl Try.ntmps75 rfl fun w0 M0 => ?_
  refine JC_seq ?_
  refine JC_region ?_
  refine JL_step rfl rfl rfl (jo_box rfl rfl) fun b2 => ?_
  refine JL_step rfl rfl rfl (jo_box rfl rfl) fun b3 => ?_
  refine JL_pd rfl (det_assign rfl) ?_
  refine JL_nil ?_
  refine JE_seq ?_
  refine JC_scope rfl ?_
  refine JC_seq ?_
  refine JC_region ?_
  refine JL_step rfl rfl rfl (jo_alloc0 Try.zeroValue124 rfl) fun b5 => ?_
  refine JL_nil ?_
  refine JE_seq ?_
  refine JC_seq ?_
  refine JC_draw [3] (by kernel_rfl) ?_
  refine JA_pd (i := 0) rfl (by kernel_rfl) rfl rfl (det_sliceArr rfl Try.runUnderlying124 Try.sizeOf3) ?_
  refine JA_pd (i := 1) rfl (by kernel_rfl) rfl rfl (det_fieldAddr rfl fo_30_1) ?_
  refine JA_dt (i := 2) rfl (by kernel_rfl) (by kernel_rfl) rfl rfl (det_loadK rfl Try.isAgg22 rfl) ?_
  refine JA_tail (i := 3) (by kernel_rfl) rfl rfl rfl rfl (jo_copyKB (e := encI) 10 (x.h.shoes.flatMap encI) rfl rfl Try.runUnderlying22 Try.sizeOf3 (by rw [hn]; rfl) (by rw [List.take_of_length_le (by omega)]; exact splice_full (by rw [hfc]; rfl)) (by decide) (fun _ => rfl)) fun b17 => ?_
  refine JT_done (by kernel_rfl) ?_
  refine JE_seq ?_
  refine JC_seq ?_
  refine JC_region ?_
  refine JL_dt rfl (det_loadK rfl Try.isAgg22 rfl) ?_
  refine JL_pd rfl (det_len rfl Try.runUnderlying22) ?_
  refine JL_step rfl rfl rfl (jo_makeSlice (n := feet.length) (zv := I 0) (z := 1) (bytes := 8) rfl rfl rfl Try.underlying22 (by kernel_rfl) (by omega) (by omega)) fun b20 => ?_
  refine JL_pd rfl (det_assign rfl) ?_
  refine JL_nil ?_
  refine JE_seq ?_
  refine JC_seq ?_
  refine JC_seq ?_
  refine JC_region ?_
  refine JL_dt rfl (det_loadK rfl Try.isAgg22 rfl) ?_
  refine JL_pd rfl (det_len rfl Try.runUnderlying22) ?_
  refine JL_pd rfl (det_move rfl) ?_
  refine JL_nil ?_
  refine JE_seq ?_
  refine JC_block ?_
  -- stop: loop
  refine JC_keep b3 noFp ?_
  refine JC_keep b2 noFp ?_
  refine JC_loopF (γ := Nat) (fun i => i ≤ feet.length) (fun i => [(23, I i)]) (fun i => [ow (.slice (some ⟨b20, 0, none⟩) feet.length feet.length) 3 1 feet.length ((ordI feet.length i).flatMap encN)]) (fun i => feet.length - i) 0 (Nat.zero_le _) (stsub_consI rfl rfl stsub_nil) (ht_ow rfl (ordI_zero _) ht_nil) ?_
  intro i hi K hK
  dsimp only [List.cons_append, List.nil_append]
  refine JC_seq ?_
  refine JC_region ?_
  refine JL_pd rfl (det_lss rfl rfl) ?_
  refine JL_nil ?_
  refine JE_seq ?_
  refine JC_seq ?_
  -- stop: cond
  refine JC_if rfl (fun h2 => ?_) (fun h2 => ?_)
  · have hi2 : i < feet.length := by omega
    refine JC_skip ?_
    refine JE_seq ?_
    refine JC_seq ?_
    refine JC_block ?_
    refine JC_seq ?_
    refine JC_region ?_
    refine JL_pd rfl (det_move rfl) ?_
    refine JL_pd rfl (det_assign rfl) ?_
    refine JL_nil ?_
    refine JE_seq ?_
    refine JC_region ?_
    refine JL_pd rfl (det_move rfl) ?_
    refine JL_pd rfl (det_move rfl) ?_
    refine JL_pd rfl (det_move rfl) ?_
    refine JL_pd rfl (det_indexOwn (i := i) rfl rfl (by first | rfl | omega) (by first | assumption | omega) Try.runUnderlying22 Try.sizeOf3) ?_
    refine JL_step0 rfl rfl (jo_storeO (xs' := (ordI feet.length (i + 1)).flatMap encN) (vs := encN i) rfl rfl rfl (by rw [splice_rec encN _ i i (by rw [ordI_len (by omega)]; exact hi2), ordI_set hi2]) Try.sizeOf3 (by rw [flat_len, ordI_len (by omega)]; simp [encN]; omega) rfl) fun _ => ?_
    refine JL_nil ?_
    refine JE_block ?_
    refine JE_seq ?_
    refine JC_region ?_
    refine JL_pd rfl (det_add rfl rfl ⟨by omega, by omega⟩) ?_
    refine JL_pd rfl (det_move rfl) ?_
    refine JL_nil ?_
    -- stop: end
    refine JE_roundF hK (i + 1) (by omega) (by omega) (stsub_consI rfl (by omega) stsub_nil) (ht_cons ht_nil)
  · obtain rfl : i = feet.length := by omega
    rw [ordI_all]
    have hsrt := sortN_y 96 feet.length [pt b3] (KAnd (KBox b3 [.slice a feet.length c]) (KSl a feet.length c encI feet)) (cfF feet) Try.call96 (swoF _ _) (fun W hW x y hx hy => fit_cmp feet hf b3 a c W hW.1 hW.2 x y hx hy) b20 feet.length feet.length (List.range feet.length) (fun i hi => List.mem_range.1 hi) (by simp) (by omega)
    refine JC_exit ?_
    refine JE_seq_exit ?_
    refine JE_then_exit ?_
    refine JE_block_here ?_
    refine JE_seq ?_
    refine JC_seq ?_
    refine JC_region ?_
    refine JL_pd rfl (det_move rfl) ?_
    refine JL_pd rfl (det_makeFuncE rfl rfl) ?_
    -- stop: op  2 t33 := (call (Call (value f60) (t31 t32) (22 89)))   <0 1>   47
    refine JL_step rfl rfl rfl (jo_callx rfl rfl Try.call60 rfl (hsrt) (pick_perm)) fun ts => ?_
    refine JL_nil ?_
    refine JE_seq ?_
    refine JC_seq ?_
    refine JC_region ?_
    refine JL_step rfl rfl rfl (jo_buildSlice rfl (bsl_22_1_0 _)) fun b34 => ?_
    refine JL_dt rfl (det_loadK rfl Try.isAgg22 rfl) ?_
    refine JL_pd rfl (det_len rfl Try.runUnderlying22) ?_
    refine JL_lit (enc := encI) b34 1 [(-1 : Int)] noFp rfl rfl (by decide) ?_
    refine JL_step rfl rfl rfl (jo_call rfl rfl Try.call63 rfl (Repeat_i (feet.length : Int) feet.length rfl (by omega) _ _ (-1))) fun b37 => ?_
    refine JL_pd rfl (det_assign rfl) ?_
    refine JL_nil ?_
    refine JE_seq ?_
    refine JC_seq ?_
    refine JC_label ?_
    refine JE_seq ?_
    refine JC_seq ?_
    refine JC_seq ?_
    refine JC_region ?_
    refine JL_pd rfl (det_move rfl) ?_
    refine JL_pd rfl (det_len rfl Try.runUnderlying22) ?_
    refine JL_pd rfl (det_move rfl) ?_
    refine JL_nil ?_
    refine JE_seq ?_
    refine JC_block ?_
    -- stop: loop
    obtain ⟨ts, hts, hto⟩ := ts
    have htl : ts.length = feet.length := by rw [hts.length_eq, List.length_range]
    have htn : ∀ i ∈ ts, i < feet.length := fun i hi => List.mem_range.1 (hts.mem_iff.1 hi)
    have htd : ts.Nodup := hts.nodup_iff.2 List.nodup_range
    dsimp only
    refine JC_kl (enc := encN) (.slice (some ⟨b20, 0, none⟩) feet.length feet.length) ts noFp fun a' cap' e' => ?_
    have e1 : a' = some ⟨b20, 0, none⟩ := (Value.slice.inj e').1.symm
    have e2 : cap' = feet.length := (Value.slice.inj e').2.2.symm
    subst e1 e2
    refine JC_know (R' := KAnd (KSl (some ⟨b20, 0, none⟩) feet.length feet.length encN ts) (KAnd (KBox b2 [I x.h.lanes, .slice x.a x.h.shoes.length x.c]) (KAnd (KBox b3 [.slice a feet.length c]) (KAnd (KHx x) (KSl a feet.length c encI feet))))) (fun w h => ⟨by have := h.1; rwa [htl] at this, Knows.know w h.2⟩) ?_
    generalize hL : ts.map (fun i => feet[i]!) = L
    have hLl : L.length = feet.length := by rw [← hL, List.length_map, htl]
    have hLg : ∀ j (hj : j < ts.length), L[j]'(by omega) = feet[ts[j]]'(htn _ (List.getElem_mem hj)) := fun j hj => by
      subst hL
      rw [List.getElem_map]; exact getElem!_pos feet _ (htn _ (List.getElem_mem hj))
    refine JC_loopF (γ := Nat × List Int) (fun q => q.1 ≤ feet.length ∧ Fills feet.length ts (greS x.h.shoes L) q.1 q.2) (fun q => [(40, I q.1)]) (fun q => [ow (.slice (some ⟨b37, 0, none⟩) feet.length feet.length) 3 1 feet.length (q.2.flatMap encI), bx b5 ((leftA x.h.shoes (L.take q.1)).flatMap encI)]) (fun q => feet.length - q.1) (0, List.replicate feet.length (-1)) ⟨Nat.zero_le _, .start htn⟩ (stsub_consI rfl rfl stsub_nil) (ht_cons (ht_bx (by rw [List.take_zero]; rfl) ht_nil)) ?_
    rintro ⟨j, p⟩ ⟨hj, hfl⟩ K hK
    dsimp only [List.cons_append, List.nil_append] at hj hfl ⊢
    refine JC_seq ?_
    refine JC_region ?_
    refine JL_pd rfl (det_lss rfl rfl) ?_
    refine JL_nil ?_
    refine JE_seq ?_
    refine JC_seq ?_
    -- stop: cond
    refine JC_if rfl (fun h3 => ?_) (fun h3 => ?_)
    · have hj2 : j < ts.length := by omega
      have hi := htn _ (List.getElem_mem hj2)
      generalize hE : leftA x.h.shoes (L.take j) = E
      have hEl : E.length = 10 := by rw [← hE, leftA_len, hn]
      have hj3 : j < feet.length := by omega
      have hf0 := hf _ (List.getElem_mem hi)
      have hg : ∀ s : Nat, s < 10 → (E.flatMap encI)[s * 1]? = some (I (shoe E s)) := fun s hs => by
        rw [Nat.mul_one, flatI_get E s (by omega), shoe_get (by omega)]
      obtain ⟨f, hfn⟩ : ∃ f : Nat, feet[ts[j]] = (f : Int) := ⟨feet[ts[j]].toNat, by omega⟩
      have hpn := hfl.n
      have hbd := leftA_bd (L.take j) x.h.shoes hn (fun s hs => by rw [shoe_get (by omega)]; exact hv.s _ (List.getElem_mem _))
      rw [hE] at hbd
      have hvj : (greS x.h.shoes L).getD j 0 = wearS E feet[ts[j]] := by
        have hjL : j < L.length := by omega
        rw [List.getD_eq_getElem?_getD, List.getElem?_eq_getElem (by rw [greS_len]; exact hjL), greS_get L _ j hjL, hE, hLg j hj2]; rfl
      have hsn : L.take (j + 1) = L.take j ++ [feet[ts[j]]] := by rw [take_snoc (by omega), hLg j hj2]
      have hb1 := hbd f (by omega)
      refine JC_skip ?_
      refine JE_seq ?_
      refine JC_seq ?_
      refine JC_block ?_
      refine JC_seq ?_
      refine JC_region ?_
      refine JL_dt rfl (det_indexAddr rfl rfl (by first | rfl | omega) (by first | assumption | omega | decide) Try.runUnderlying22 Try.sizeOf3) ?_
      refine JL_dt rfl (det_loadE (n := feet.length) (xs := ts) (v := I ((ts[j] : Nat) : Int)) rfl hj3 Try.isAgg3 htl.symm rfl) ?_
      refine JL_pd rfl (det_assign rfl) ?_
      refine JL_nil ?_
      refine JE_seq ?_
      refine JC_seq ?_
      refine JC_region ?_
      refine JL_step rfl rfl rfl (jo_call rfl rfl Try.call97 rfl (wears_j)) fun x44 => ?_
      refine JL_pd rfl (det_len rfl Try.runUnderlying125) ?_
      refine JL_pd rfl (det_move rfl) ?_
      refine JL_nil ?_
      refine JE_seq ?_
      refine JC_block ?_
      -- stop: loop
      refine JC_loopF (γ := Nat) (fun i => i ≤ 2 ∧ (1 ≤ i → ¬ 0 < shoe E feet[ts[j]]) ∧ (2 ≤ i → ¬ (inI (feet[ts[j]] + 1) 0 9 = true ∧ 0 < shoe E (feet[ts[j]] + 1)))) (fun i => [(46, I i)]) (fun _ => []) (fun i => 2 - i) 0 ⟨by omega, by omega, by omega⟩ (stsub_consI rfl rfl stsub_nil) ht_nil ?_
      rintro i ⟨hi2, q1, q2⟩ K' hK'
      dsimp only [List.cons_append, List.nil_append]
      refine JC_seq ?_
      refine JC_region ?_
      refine JL_pd rfl (det_lss rfl rfl) ?_
      refine JL_nil ?_
      refine JE_seq ?_
      refine JC_seq ?_
      -- stop: cond
      refine JC_if rfl (fun h4 => ?_) (fun h4 => ?_)
      · skip
        rcases (by omega : i = 0 ∨ i = 1) with rfl | rfl
        · skip
          refine JC_skip ?_
          refine JE_seq ?_
          refine JC_seq ?_
          refine JC_block ?_
          refine JC_seq ?_
          refine JC_region ?_
          refine JL_dt rfl (det_indexAddr rfl rfl (by first | rfl | omega) (by first | assumption | omega | decide) Try.runUnderlying125 Try.sizeOf129) ?_
          refine JL_dt rfl (det_loadEA (n := 2) (xs := [116, 117]) (i := 0) rfl (by decide) Try.isAgg129 Try.sizeOf129 rfl rfl rfl) ?_
          refine JL_step rfl rfl rfl (jo_alloc0 Try.zeroValue129 rfl) fun b12 => ?_
          refine JL_step0 rfl rfl (jo_store rfl rfl rfl (by first | (simp only [splice_norm]; done) | (simp only [splice_norm]; rfl) | rfl) Try.sizeOf129 rfl rfl) fun _ => ?_
          refine JL_nil ?_
          refine JE_seq ?_
          refine JC_seq ?_
          refine JC_draw [] (by kernel_rfl) ?_
          refine JA_pd (i := 0) rfl (by kernel_rfl) rfl rfl (det_fieldAddr rfl fo_129_0) ?_
          refine JA_dt (i := 1) rfl (by kernel_rfl) (by kernel_rfl) rfl rfl (det_loadK rfl Try.isAgg127 rfl) ?_
          refine JA_dt (i := 2) rfl (by kernel_rfl) (by kernel_rfl) rfl rfl (det_loadK rfl Try.isAgg22 rfl) ?_
          refine JA_pd (i := 3) rfl (by kernel_rfl) rfl rfl (det_move rfl) ?_
          refine JA_dt (i := 4) rfl (by kernel_rfl) (by kernel_rfl) rfl rfl (det_indexAddr rfl rfl (by first | rfl | omega) (by first | assumption | omega | decide) Try.runUnderlying22 Try.sizeOf3) ?_
          refine JA_dt (i := 5) rfl (by kernel_rfl) (by kernel_rfl) rfl rfl (det_loadE rfl (by first | assumption | omega | decide) Try.isAgg3 rfl rfl) ?_
          -- stop: op  6 t56 := (call (Call (value t51) (t55) (130)))   <1 5>   52
          refine JA_one (i := 6) (by kernel_rfl) rfl rfl (jo_callv rfl rfl Try.call116 rfl (own_j feet[ts[j]])) (fun _ => ⟨hsub_refl, fun _ h => h⟩) fun _ => ?_
          refine JA_pd (i := 7) rfl (by kernel_rfl) rfl rfl (det_assign rfl) ?_
          refine JA_done (by kernel_rfl) ?_
          refine JE_seq ?_
          refine JC_seq ?_
          refine JC_region ?_
          refine JL_pd rfl (det_move rfl) ?_
          refine JL_step rfl rfl rfl (jo_callv rfl rfl Try.call83 rfl (size_j _)) fun _ => ?_
          refine JL_pd rfl (det_move rfl) ?_
          -- stop: guard 2
          refine JL_is (d0 := 59) true rfl (by exact inI_iff.2 hf0) (fun g1 => ?_)
          refine JL_guard rfl rfl g1 ?_
          refine JL_pd rfl (det_move rfl) ?_
          refine JL_guard rfl rfl g1 ?_
          refine JL_pd rfl (det_indexArr (i := f) rfl rfl (by omega) (by omega) Try.runUnderlying124 Try.sizeOf3) ?_
          refine JL_guard rfl rfl g1 ?_
          refine JL_dt rfl (det_loadK rfl Try.isAgg3 (by rw [Nat.zero_add]; exact hg f (by omega))) ?_
          refine JL_guard rfl rfl g1 ?_
          refine JL_pd rfl (det_gtr rfl rfl) ?_
          refine JL_pd rfl (det_pick_t rfl g1 rfl) ?_
          refine JL_nil ?_
          refine JE_seq ?_
          -- stop: cond
          refine JC_if rfl (fun h5 => ?_) (fun h5 => ?_)
          · skip
            have hw : wearS E feet[ts[j]] = (f : Int) := by rw [wearS_own hf0 (by rw [hfn]; exact h5), hfn]
            have hE2 : leftA x.h.shoes (L.take (j + 1)) = E.set f (shoe E f - 1) := by rw [hsn, leftA_snoc, hE, left', hw, if_neg (by omega), Int.toNat_natCast]
            rw [hfn]
            refine JC_seq ?_
            refine JC_region ?_
            refine JL_pd rfl (det_move rfl) ?_
            refine JL_pd rfl (det_indexArr (i := f) rfl rfl (by omega) (by omega) Try.runUnderlying124 Try.sizeOf3) ?_
            refine JL_dt rfl (det_loadK rfl Try.isAgg3 (by rw [Nat.zero_add]; exact hg f (by omega))) ?_
            refine JL_pd rfl (det_sub rfl rfl ⟨by omega, by omega⟩) ?_
            refine JL_pd rfl (det_indexArr (i := f) rfl rfl (by omega) (by omega) Try.runUnderlying124 Try.sizeOf3) ?_
            refine JL_step0 rfl rfl (jo_store (cs' := (E.set f (shoe E f - 1)).flatMap encI) (vs := [I (shoe E f - 1)]) rfl rfl rfl (by rw [Nat.zero_add]; exact splice_rec encI E f (shoe E f - 1) (by omega)) Try.sizeOf3 (Nat.ble_eq_true_of_le (by rw [flat_len, hEl]; simp; omega)) rfl) fun _ => ?_
            refine JL_nil ?_
            refine JE_seq ?_
            refine JC_seq ?_
            refine JC_region ?_
            refine JL_pd rfl (det_move rfl) ?_
            refine JL_pd rfl (det_move rfl) ?_
            refine JL_pd rfl (det_move rfl) ?_
            refine JL_pd rfl (det_indexOwn (i := ts[j]) rfl rfl (by first | rfl | omega) (by first | assumption | omega) Try.runUnderlying22 Try.sizeOf3) ?_
            refine JL_step0 rfl rfl (jo_storeO (xs' := (p.set ts[j] (f : Int)).flatMap encI) (vs := encI (f : Int)) rfl rfl rfl (splice_rec encI p ts[j] (f : Int) (by omega)) Try.sizeOf3 (by rw [flat_len, hpn]; simp [encI]; omega) rfl) fun _ => ?_
            refine JL_nil ?_
            refine JE_seq ?_
            refine JC_exit ?_
            refine JE_block_on rfl ?_
            refine JE_seq_exit ?_
            refine JE_then_exit ?_
            refine JE_block_on rfl ?_
            refine JE_block_here ?_
            refine JE_seq ?_
            refine JC_region ?_
            refine JL_pd rfl (det_add rfl rfl ⟨by omega, by omega⟩) ?_
            refine JL_pd rfl (det_move rfl) ?_
            refine JL_nil ?_
            -- stop: end
            refine JE_roundF hK (j + 1, p.set ts[j] ((greS x.h.shoes L).getD j 0)) ⟨by simp only; omega, hfl.set htd hj2 htn⟩ (by simp only; omega) (stsub_consI rfl (by simp only; omega) stsub_nil) (ht_ow rfl (by rw [hvj, hw]) (ht_bx (by rw [hE2]) ht_nil))
          · refine JC_skip ?_
            refine JE_block ?_
            refine JE_seq ?_
            refine JC_region ?_
            refine JL_pd rfl (det_add rfl rfl ⟨by omega, by omega⟩) ?_
            refine JL_pd rfl (det_move rfl) ?_
            refine JL_nil ?_
            -- stop: end
            refine JE_roundF hK' 1 ⟨by omega, fun _ => by rw [hfn]; exact h5, by omega⟩ (by omega) (stsub_consI rfl rfl stsub_nil) ht_nil
        · have q1 := q1 (by omega)
          refine JC_skip ?_
          refine JE_seq ?_
          refine JC_seq ?_
          refine JC_block ?_
          refine JC_seq ?_
          refine JC_region ?_
          refine JL_dt rfl (det_indexAddr rfl rfl (by first | rfl | omega) (by first | assumption | omega | decide) Try.runUnderlying125 Try.sizeOf129) ?_
          refine JL_dt rfl (det_loadEA (n := 2) (xs := [116, 117]) (i := 1) rfl (by decide) Try.isAgg129 Try.sizeOf129 rfl rfl rfl) ?_
          refine JL_step rfl rfl rfl (jo_alloc0 Try.zeroValue129 rfl) fun b12 => ?_
          refine JL_step0 rfl rfl (jo_store rfl rfl rfl (by first | (simp only [splice_norm]; done) | (simp only [splice_norm]; rfl) | rfl) Try.sizeOf129 rfl rfl) fun _ => ?_
          refine JL_nil ?_
          refine JE_seq ?_
          refine JC_seq ?_
          refine JC_draw [] (by kernel_rfl) ?_
          refine JA_pd (i := 0) rfl (by kernel_rfl) rfl rfl (det_fieldAddr rfl fo_129_0) ?_
          refine JA_dt (i := 1) rfl (by kernel_rfl) (by kernel_rfl) rfl rfl (det_loadK rfl Try.isAgg127 rfl) ?_
          refine JA_dt (i := 2) rfl (by kernel_rfl) (by kernel_rfl) rfl rfl (det_loadK rfl Try.isAgg22 rfl) ?_
          refine JA_pd (i := 3) rfl (by kernel_rfl) rfl rfl (det_move rfl) ?_
          refine JA_dt (i := 4) rfl (by kernel_rfl) (by kernel_rfl) rfl rfl (det_indexAddr rfl rfl (by first | rfl | omega) (by first | assumption | omega | decide) Try.runUnderlying22 Try.sizeOf3) ?_
          refine JA_dt (i := 5) rfl (by kernel_rfl) (by kernel_rfl) rfl rfl (det_loadE rfl (by first | assumption | omega | decide) Try.isAgg3 rfl rfl) ?_
          -- stop: op  6 t56 := (call (Call (value t51) (t55) (130)))   <1 5>   52
          refine JA_one (i := 6) (by kernel_rfl) rfl rfl (jo_callv rfl rfl Try.call117 rfl (next_j feet[ts[j]] hf0)) (fun _ => ⟨hsub_refl, fun _ h => h⟩) fun _ => ?_
          refine JA_pd (i := 7) rfl (by kernel_rfl) rfl rfl (det_assign rfl) ?_
          refine JA_done (by kernel_rfl) ?_
          refine JE_seq ?_
          refine JC_seq ?_
          refine JC_region ?_
          refine JL_pd rfl (det_move rfl) ?_
          refine JL_step rfl rfl rfl (jo_callv rfl rfl Try.call83 rfl (size_j _)) fun _ => ?_
          refine JL_pd rfl (det_move rfl) ?_
          -- stop: guard 2
          refine JL_split (d0 := 59) rfl (fun g1 => ?_) (fun g1 => ?_)
          · refine JL_guard rfl rfl g1 ?_
            refine JL_pd rfl (det_move rfl) ?_
            refine JL_guard rfl rfl g1 ?_
            refine JL_pd rfl (det_indexArr (i := f + 1) rfl rfl (by omega) (by have := inI_iff.1 g1; omega) Try.runUnderlying124 Try.sizeOf3) ?_
            refine JL_guard rfl rfl g1 ?_
            refine JL_dt rfl (det_loadK rfl Try.isAgg3 (by rw [Nat.zero_add]; exact hg (f + 1) (by have := inI_iff.1 g1; omega))) ?_
            refine JL_guard rfl rfl g1 ?_
            refine JL_pd rfl (det_gtr rfl rfl) ?_
            refine JL_pd rfl (det_pick_t rfl g1 rfl) ?_
            refine JL_nil ?_
            refine JE_seq ?_
            -- stop: cond
            have hfs : f + 1 < 10 := by have := inI_iff.1 g1; omega
            have hb2 := hbd (f + 1) hfs
            refine JC_if rfl (fun h5 => ?_) (fun h5 => ?_)
            · skip
              have hw : wearS E feet[ts[j]] = ((f + 1 : Nat) : Int) := by rw [wearS_next q1 (by omega) (by rw [hfn]; exact h5), hfn]; rfl
              have hE2 : leftA x.h.shoes (L.take (j + 1)) = E.set (f + 1) (shoe E ((f + 1 : Nat) : Int) - 1) := by rw [hsn, leftA_snoc, hE, left', hw, if_neg (by omega), Int.toNat_natCast]
              rw [show feet[ts[j]] + 1 = ((f + 1 : Nat) : Int) by omega]
              refine JC_seq ?_
              refine JC_region ?_
              refine JL_pd rfl (det_move rfl) ?_
              refine JL_pd rfl (det_indexArr (i := f + 1) rfl rfl (by omega) (by omega) Try.runUnderlying124 Try.sizeOf3) ?_
              refine JL_dt rfl (det_loadK rfl Try.isAgg3 (by rw [Nat.zero_add]; exact hg (f + 1) (by omega))) ?_
              refine JL_pd rfl (det_sub rfl rfl ⟨by omega, by omega⟩) ?_
              refine JL_pd rfl (det_indexArr (i := f + 1) rfl rfl (by omega) (by omega) Try.runUnderlying124 Try.sizeOf3) ?_
              refine JL_step0 rfl rfl (jo_store (cs' := (E.set (f + 1) (shoe E ((f + 1 : Nat) : Int) - 1)).flatMap encI) (vs := [I (shoe E ((f + 1 : Nat) : Int) - 1)]) rfl rfl rfl (by rw [Nat.zero_add]; exact splice_rec encI E (f + 1) (shoe E ((f + 1 : Nat) : Int) - 1) (by omega)) Try.sizeOf3 (Nat.ble_eq_true_of_le (by rw [flat_len, hEl]; simp; omega)) rfl) fun _ => ?_
              refine JL_nil ?_
              refine JE_seq ?_
              refine JC_seq ?_
              refine JC_region ?_
              refine JL_pd rfl (det_move rfl) ?_
              refine JL_pd rfl (det_move rfl) ?_
              refine JL_pd rfl (det_move rfl) ?_
              refine JL_pd rfl (det_indexOwn (i := ts[j]) rfl rfl (by first | rfl | omega) (by first | assumption | omega) Try.runUnderlying22 Try.sizeOf3) ?_
              refine JL_step0 rfl rfl (jo_storeO (xs' := (p.set ts[j] ((f + 1 : Nat) : Int)).flatMap encI) (vs := encI ((f + 1 : Nat) : Int)) rfl rfl rfl (splice_rec encI p ts[j] ((f + 1 : Nat) : Int) (by omega)) Try.sizeOf3 (by rw [flat_len, hpn]; simp [encI]; omega) rfl) fun _ => ?_
              refine JL_nil ?_
              refine JE_seq ?_
              refine JC_exit ?_
              refine JE_block_on rfl ?_
              refine JE_seq_exit ?_
              refine JE_then_exit ?_
              refine JE_block_on rfl ?_
              refine JE_block_here ?_
              refine JE_seq ?_
              refine JC_region ?_
              refine JL_pd rfl (det_add rfl rfl ⟨by omega, by omega⟩) ?_
              refine JL_pd rfl (det_move rfl) ?_
              refine JL_nil ?_
              -- stop: end
              refine JE_roundF hK (j + 1, p.set ts[j] ((greS x.h.shoes L).getD j 0)) ⟨by simp only; omega, hfl.set htd hj2 htn⟩ (by simp only; omega) (stsub_consI rfl (by simp only; omega) stsub_nil) (ht_ow rfl (by rw [hvj, hw]) (ht_bx (by rw [hE2]) ht_nil))
            · refine JC_skip ?_
              refine JE_block ?_
              refine JE_seq ?_
              refine JC_region ?_
              refine JL_pd rfl (det_add rfl rfl ⟨by omega, by omega⟩) ?_
              refine JL_pd rfl (det_move rfl) ?_
              refine JL_nil ?_
              -- stop: end
              refine JE_roundF hK' 2 ⟨by omega, fun _ => q1, fun _ q => h5 (by rw [hfn] at q; exact q.2)⟩ (by omega) (stsub_consI rfl rfl stsub_nil) ht_nil
          · refine JL_skip rfl rfl g1 rfl ?_
            refine JL_skip rfl rfl g1 rfl ?_
            refine JL_skip rfl rfl g1 rfl ?_
            refine JL_skip rfl rfl g1 rfl ?_
            refine JL_pd rfl (det_pick_f rfl g1 rfl) ?_
            refine JL_nil ?_
            refine JE_seq ?_
            -- stop: cond
            refine JC_cond rfl (fun h5 => ?_) (fun h5 => ?_)
            · cases h5
            refine JC_skip ?_
            refine JE_block ?_
            refine JE_seq ?_
            refine JC_region ?_
            refine JL_pd rfl (det_add rfl rfl ⟨by omega, by omega⟩) ?_
            refine JL_pd rfl (det_move rfl) ?_
            refine JL_nil ?_
            -- stop: end
            refine JE_roundF hK' 2 ⟨by omega, fun _ => q1, fun _ q => by rw [g1] at q; exact absurd q.1 (by decide)⟩ (by omega) (stsub_consI rfl rfl stsub_nil) ht_nil
      · obtain rfl : i = 2 := by omega
        have hw : wearS E feet[ts[j]] = -1 := wearS_none (q1 (by omega)) (q2 (by omega))
        have hE2 : leftA x.h.shoes (L.take (j + 1)) = E := by rw [hsn, leftA_snoc, hE, left', if_pos hw]
        refine JC_exit ?_
        refine JE_seq_exit ?_
        refine JE_then_exit ?_
        refine JE_block_here ?_
        refine JE_block ?_
        refine JE_seq ?_
        refine JC_region ?_
        refine JL_pd rfl (det_add rfl rfl ⟨by omega, by omega⟩) ?_
        refine JL_pd rfl (det_move rfl) ?_
        refine JL_nil ?_
        -- stop: end
        refine JE_roundF hK (j + 1, p) ⟨by simp only; omega, hfl.same hj2 (by rw [hvj, hw])⟩ (by simp only; omega) (stsub_consI rfl (by simp only; omega) stsub_nil) (ht_cons (ht_bx (by rw [hE2]) ht_nil))
    · obtain rfl : j = feet.length := by omega
      refine JC_exit ?_
      refine JE_seq_exit ?_
      refine JE_then_exit ?_
      refine JE_block_here ?_
      refine JE_seq ?_
      refine JC_seq ?_
      refine JC_region ?_
      refine JL_pd rfl (det_move rfl) ?_
      refine JL_pd rfl (det_assign rfl) ?_
      refine JL_nil ?_
      refine JE_seq ?_
      refine JC_ret ?_
      refine JE_scope_ret ?_
      -- stop: out
      have hso : FitOk x.h.shoes feet p := by
        refine fit_of (ord := ts) hts ?_ ?_
        · rw [List.pairwise_map]
          refine hto.imp fun {x y} hxy => ?_
          have := mt (cfF_lt feet y x).2 hxy
          omega
        · rw [hL, htl]; exact hfl
      refine JE_slice (enc := encI) (v := .slice (some ⟨b37, 0, none⟩) feet.length feet.length) p noFp rfl hfl.n.symm fun a2 cap2 e2 => ?_
      obtain rfl := (Value.slice.inj e2).1
      obtain rfl := (Value.slice.inj e2).2.2
      refine JE_out (.inl rfl) (b37, ⟨p, hso⟩) (results1 Try.results75 (res_tmp rfl)) rfl (List.Perm.refl _) (fun w h => h.1)
end Go.Proofs.Ytkmaafnbefpdjaa

/- Walks of lend: Fit, Sizes. -/
namespace Go.Proofs.Ytkmaafnbefpdjaa
open Go.RowKit Go.Shelf

theorem fit_same {sh feet ws ws' : List Int} (hn : sh.length = 10) (h0 : ∀ x ∈ sh, 0 ≤ x) (hf : ∀ f ∈ feet, 0 ≤ f ∧ f ≤ 9) (h : FitOk sh feet ws) (h' : FitOk sh feet ws') : bare ws = bare ws' := by
  have F := fit_facts hn h0 hf h
  have F' := fit_facts hn h0 hf h'
  have a1 := sizes_lack F hf (fun _ => Iff.rfl)
  have a2 := sizes_lack F' hf (fun _ => Iff.rfl)
  have b1 := lack_le F'.fit (roundsR (feet.zip ws) (baresL feet ws) 10)
  have b2 := lack_le F.fit (roundsR (feet.zip ws') (baresL feet ws') 10)
  rw [a1.1] at b1
  rw [a2.1] at b2
  omega
theorem Fit_je (x : Hx) (a : Option Addr) (c : Nat) (feet : List Int) (h : shodE x.h feet ≠ 0) : Cv Try.prog 46 [.agg #[I x.h.lanes, .slice x.a x.h.shoes.length x.c], .slice a feet.length c] (KAnd (KHx x) (KSl a feet.length c encI feet)) (.tuple #[.slice none 0 0, I (shodE x.h feet)]) := by
  refine Cx_of Try.func46 rfl Try.ntmps46 rfl fun w0 M0 => ?_
  refine JC_seq ?_
  refine JC_region ?_
  refine JL_step rfl rfl rfl (jo_box rfl rfl) fun b2 => ?_
  refine JL_pd rfl (det_assign rfl) ?_
  refine JL_pd rfl (det_assign rfl) ?_
  refine JL_nil ?_
  refine JE_seq ?_
  refine JC_seq ?_
  refine JC_seq ?_
  refine JC_region ?_
  refine JL_dt rfl (det_loadKA rfl Try.isAgg30 Try.sizeOf30 rfl rfl) ?_
  refine JL_pd rfl (det_move rfl) ?_
  refine JL_step rfl rfl rfl (jo_callv rfl rfl Try.call82 rfl (shod_j x a c feet)) fun _ => ?_
  refine JL_pd rfl (det_assign rfl) ?_
  refine JL_nil ?_
  refine JE_seq ?_
  refine JC_seq ?_
  refine JC_region ?_
  refine JL_pd rfl (det_move rfl) ?_
  refine JL_pd rfl (det_neq rfl rfl) ?_
  refine JL_nil ?_
  refine JE_seq ?_
  -- stop: cond
  refine JC_ifn rfl (fun h1 => ?_) (fun h1 => ?_)
  · refine JC_seq ?_
    refine JC_region ?_
    refine JL_pd rfl (det_move rfl) ?_
    refine JL_pd rfl (det_assign rfl) ?_
    refine JL_pd rfl (det_assign rfl) ?_
    refine JL_nil ?_
    refine JE_seq ?_
    refine JC_ret ?_
    refine JE_seq_ret ?_
    -- stop: out
    refine JE_out (.inl rfl) () (results2 Try.results46 (res_tmp rfl) (res_tmp rfl)) rfl (List.Perm.refl _) (fun _ _ => trivial)
  · exact absurd h1 h
theorem Fit_jo (x : Hx) (a : Option Addr) (c : Nat) (feet : List Int) (h : shodE x.h feet = 0) : Cr Try.prog 46 [.agg #[I x.h.lanes, .slice x.a x.h.shoes.length x.c], .slice a feet.length c] (KAnd (KHx x) (KSl a feet.length c encI feet)) (fun q : Nat × { p : List Int // FitOk x.h.shoes feet p } => .tuple #[.slice (some ⟨q.1, 0, none⟩) feet.length feet.length, I 0])
    (fun q => KSl (some ⟨q.1, 0, none⟩) feet.length feet.length encI q.2.1) := by
  have V := vfeet_of h
  have hsh := shod_j x a c feet
  rw [h] at hsh
  refine Cx_of Try.func46 rfl Try.ntmps46 rfl fun w0 M0 => ?_
  refine JC_seq ?_
  refine JC_region ?_
  refine JL_step rfl rfl rfl (jo_box rfl rfl) fun b2 => ?_
  refine JL_pd rfl (det_assign rfl) ?_
  refine JL_pd rfl (det_assign rfl) ?_
  refine JL_nil ?_
  refine JE_seq ?_
  refine JC_seq ?_
  refine JC_seq ?_
  refine JC_region ?_
  refine JL_dt rfl (det_loadKA rfl Try.isAgg30 Try.sizeOf30 rfl rfl) ?_
  refine JL_pd rfl (det_move rfl) ?_
  refine JL_step rfl rfl rfl (jo_callv rfl rfl Try.call82 rfl (hsh)) fun _ => ?_
  refine JL_pd rfl (det_assign rfl) ?_
  refine JL_nil ?_
  refine JE_seq ?_
  refine JC_seq ?_
  refine JC_region ?_
  refine JL_pd rfl (det_move rfl) ?_
  refine JL_pd rfl (det_neq rfl rfl) ?_
  refine JL_nil ?_
  refine JE_seq ?_
  -- stop: cond
  refine JC_ifn rfl (fun h1 => ?_) (fun h1 => ?_)
  · exact absurd rfl h1
  · refine JC_skip ?_
    refine JE_seq ?_
    refine JC_seq ?_
    refine JC_region ?_
    refine JL_dt rfl (det_loadKA rfl Try.isAgg30 Try.sizeOf30 rfl rfl) ?_
    refine JL_pd rfl (det_move rfl) ?_
    refine JL_step rfl rfl rfl (jo_call rfl rfl Try.call75 rfl (fit_jo x a c feet V.hs (by have := V.n; omega) V.ft)) fun x15 => ?_
    refine JL_pd rfl (det_assign rfl) ?_
    refine JL_pd rfl (det_assign rfl) ?_
    refine JL_nil ?_
    refine JE_seq ?_
    refine JC_ret ?_
    -- stop: out
    refine JE_out (.inl rfl) x15 (results2 Try.results46 (res_tmp rfl) (res_tmp rfl)) rfl (List.Perm.refl _) (fun w h => h.1)
/-- Some numbers, as a map that has them. -/
def inM (S : List Int) : Int → Option Bool := fun k => if k ∈ S then some true else none
theorem inM_add (S : List Int) (f : Int) : upd (inM S) f true = inM (f :: S) := by
  funext k
  unfold upd inM
  by_cases e : k = f
  · subst e; simp
  · simp [e]
theorem inM_get (S : List Int) (k : Int) : (inM S k).getD false = decide (k ∈ S) := by
  unfold inM
  by_cases e : k ∈ S
  · rw [if_pos e, decide_eq_true e]; rfl
  · rw [if_neg e, decide_eq_false e]; rfl
section
variable {X : Ctx} {P : Program} {st : Sto} {H : List Chunk} {R : World → Prop} {d : Option Nat} {ty : TypeId} {pos : String} {af : Array Edge} {g : Option (Nat × Bool)}
theorem det_lookupI {x y : Operand} {t K E : TypeId} {b : Nat} {S : List Int} (key : Int) (hx : opnd st x = some (.map (some b))) [hb : MapAt H b Int Bool ekI vB (inM S)] (hy : opnd st y = some (I key))
    (G : GoodKey P K ekI) (hT : P.underlying t = some (.map K E)) (hz : ∀ w, (zeroValue E).run P w = .ok (.bool false) w) : Det X P ⟨d, .lookup t x y false, ty, pos, af, g⟩ st H R (.bool (decide (key ∈ S))) := by
  have := det_lookup1B (X := X) (P := P) (H := H) (R := R) (d := d) (ty := ty) (pos := pos) (af := af) (g := g) key hx hy G hT hz
  rwa [inM_get] at this
end
/-- Who has none. -/
def barF (S : List Int) (z : Int × Int) : List Int := if z.2 = -1 then z.1 :: S else S
theorem mem_barF (zs : List (Int × Int)) (x : Int) : ∀ S : List Int, x ∈ zs.foldl barF S ↔ x ∈ S ∨ x ∈ (zs.filter fun z => decide (z.2 = -1)).map (·.1) := by
  induction zs with
  | nil => intro S; simp
  | cons z r ih =>
    intro S
    rw [List.foldl_cons, ih]
    unfold barF
    by_cases e : z.2 = -1
    · rw [if_pos e, List.filter_cons_of_pos (by simpa using e), List.map_cons, List.mem_cons, List.mem_cons]
      constructor
      · rintro ((h | h) | h)
        · exact .inr (.inl h)
        · exact .inl h
        · exact .inr (.inr h)
      · rintro (h | h | h)
        · exact .inl (.inr h)
        · exact .inl (.inl h)
        · exact .inr h
    · rw [if_neg e, List.filter_cons_of_neg (by simpa using e)]
/-- The sizes among some numbers. -/
def szs (S : List Int) : Nat → List Int
  | 0 => []
  | n + 1 => szs S n ++ if (n : Int) ∈ S then [(n : Int)] else []
theorem mem_szs {S : List Int} {x : Int} : ∀ {n : Nat}, x ∈ szs S n ↔ 0 ≤ x ∧ x < n ∧ x ∈ S
  | 0 => by simp [szs]; omega
  | n + 1 => by
    unfold szs
    rw [List.mem_append, mem_szs]
    constructor
    · rintro (⟨h1, h2, h3⟩ | h)
      · exact ⟨h1, by omega, h3⟩
      · split at h
        · rename_i e
          rw [List.mem_singleton] at h
          subst h
          exact ⟨by omega, by omega, e⟩
        · cases h
    · rintro ⟨h1, h2, h3⟩
      by_cases e : x = (n : Int)
      · subst e; right; rw [if_pos h3]; simp
      · left; exact ⟨h1, by omega, h3⟩
theorem szs_up (S : List Int) : ∀ n : Nat, (szs S n).Pairwise (· < ·)
  | 0 => .nil
  | n + 1 => by
    unfold szs
    refine List.pairwise_append.2 ⟨szs_up S n, by split <;> simp, fun a ha b hb => ?_⟩
    have := (mem_szs.1 ha).2.1
    split at hb
    · rw [List.mem_singleton] at hb; omega
    · cases hb
theorem szs_len (S : List Int) : ∀ n : Nat, (szs S n).length ≤ n
  | 0 => Nat.le_refl _
  | n + 1 => by
    unfold szs
    rw [List.length_append]
    have := szs_len S n
    split <;> simp <;> omega
theorem szs_ris (S : List Int) : risB (fun n => inI n 0 9) (szs S 10) = true := by
  unfold risB
  rw [Bool.and_eq_true, decide_eq_true_eq, List.all_eq_true]
  exact ⟨fun x hx => inI_iff.2 (by have := mem_szs.1 hx; omega), szs_up S 10⟩
def SizesOk (sh feet S : List Int) : Prop := risB (fun n => inI n 0 9) S = true ∧ ∃ ws, FitOk sh feet ws ∧ lack sh feet S = (bare ws : Nat)
theorem sizes_of {sh feet ws : List Int} (hn : sh.length = 10) (h0 : ∀ x ∈ sh, 0 ≤ x) (hf : ∀ f ∈ feet, 0 ≤ f ∧ f ≤ 9) (h : FitOk sh feet ws) : SizesOk sh feet (szs (roundsR (feet.zip ws) ((feet.zip ws).foldl barF []) 10) 10) := by
  have F := fit_facts hn h0 hf h
  have hs := sizes_lack F hf (S := (feet.zip ws).foldl barF []) (fun x => by rw [mem_barF]; simp [baresL])
  refine ⟨szs_ris _, ws, h, ?_⟩
  rw [← hs.1]
  refine lack_congr (fun x h1 h2 => by rw [mem_szs]; exact ⟨fun q => q.2.2, fun q => ⟨h1, by omega, q⟩⟩) ⟨fun q => ?_, fun q => ?_⟩ hf
  · have := (mem_szs.1 q).1; omega
  · have := (hs.2 _ q).1; omega
theorem Sizes_je (x : Hx) (a : Option Addr) (c : Nat) (feet : List Int) (h : shodE x.h feet ≠ 0) : Cv Try.prog 48 [.agg #[I x.h.lanes, .slice x.a x.h.shoes.length x.c], .slice a feet.length c] (KAnd (KHx x) (KSl a feet.length c encI feet)) (.tuple #[.slice none 0 0, I (shodE x.h feet)]) := by
  refine Cx_of Try.func48 rfl Try.ntmps48 rfl fun w0 M0 => ?_
  refine JC_seq ?_
  refine JC_region ?_
  refine JL_step rfl rfl rfl (jo_box rfl rfl) fun b2 => ?_
  refine JL_pd rfl (det_assign rfl) ?_
  refine JL_pd rfl (det_assign rfl) ?_
  refine JL_nil ?_
  refine JE_seq ?_
  refine JC_seq ?_
  refine JC_seq ?_
  refine JC_region ?_
  refine JL_dt rfl (det_loadKA rfl Try.isAgg30 Try.sizeOf30 rfl rfl) ?_
  refine JL_pd rfl (det_move rfl) ?_
  refine JL_step rfl rfl rfl (jo_callv rfl rfl Try.call82 rfl (shod_j x a c feet)) fun _ => ?_
  refine JL_pd rfl (det_assign rfl) ?_
  refine JL_nil ?_
  refine JE_seq ?_
  refine JC_seq ?_
  refine JC_region ?_
  refine JL_pd rfl (det_move rfl) ?_
  refine JL_pd rfl (det_neq rfl rfl) ?_
  refine JL_nil ?_
  refine JE_seq ?_
  -- stop: cond
  refine JC_ifn rfl (fun h1 => ?_) (fun h1 => ?_)
  · refine JC_seq ?_
    refine JC_region ?_
    refine JL_pd rfl (det_move rfl) ?_
    refine JL_pd rfl (det_assign rfl) ?_
    refine JL_pd rfl (det_assign rfl) ?_
    refine JL_nil ?_
    refine JE_seq ?_
    refine JC_ret ?_
    refine JE_seq_ret ?_
    -- stop: out
    refine JE_out (.inl rfl) () (results2 Try.results48 (res_tmp rfl) (res_tmp rfl)) rfl (List.Perm.refl _) (fun _ _ => trivial)
  · exact absurd h1 h
theorem szs_snoc_in {S : List Int} {i : Nat} (h : (i : Int) ∈ S) : szs S (i + 1) = szs S i ++ [(i : Int)] := by
  show szs S i ++ (if (i : Int) ∈ S then [(i : Int)] else []) = _
  rw [if_pos h]
theorem szs_snoc_no {S : List Int} {i : Nat} (h : ¬ (i : Int) ∈ S) : szs S (i + 1) = szs S i := by
  show szs S i ++ (if (i : Int) ∈ S then [(i : Int)] else []) = _
  rw [if_neg h, List.append_nil]
theorem foldl_snoc {α β : Type} (f : β → α → β) (b : β) (l : List α) (i : Nat) (h : i < l.length) : (l.take (i + 1)).foldl f b = f ((l.take i).foldl f b) l[i] := by
  rw [take_snoc h, List.foldl_append]; rfl
set_option maxRecDepth 100000 in
set_option maxHeartbeats 1000000 in
theorem Sizes_jo (x : Hx) (a : Option Addr) (c : Nat) (feet : List Int) (h : shodE x.h feet = 0) : Cr Try.prog 48 [.agg #[I x.h.lanes, .slice x.a x.h.shoes.length x.c], .slice a feet.length c] (KAnd (KHx x) (KSl a feet.length c encI feet)) (fun q : Option Addr × Nat × { S : List Int // SizesOk x.h.shoes feet S } => .tuple #[.slice q.1 q.2.2.1.length q.2.1, I 0])
    (fun q => KSl q.1 q.2.2.1.length q.2.1 encI q.2.2.1) := by
  have V := vfeet_of h
  have hsh := shod_j x a c feet
  rw [h] at hsh
  refine Cx_of Try.func48 rfl Try.ntmps48 rfl fun w0 M0 => ?_
  refine JC_seq ?_
  refine JC_region ?_
  refine JL_step rfl rfl rfl (jo_box rfl rfl) fun b2 => ?_
  refine JL_pd rfl (det_assign rfl) ?_
  refine JL_pd rfl (det_assign rfl) ?_
  refine JL_nil ?_
  refine JE_seq ?_
  refine JC_seq ?_
  refine JC_seq ?_
  refine JC_region ?_
  refine JL_dt rfl (det_loadKA rfl Try.isAgg30 Try.sizeOf30 rfl rfl) ?_
  refine JL_pd rfl (det_move rfl) ?_
  refine JL_step rfl rfl rfl (jo_callv rfl rfl Try.call82 rfl (hsh)) fun _ => ?_
  refine JL_pd rfl (det_assign rfl) ?_
  refine JL_nil ?_
  refine JE_seq ?_
  refine JC_seq ?_
  refine JC_region ?_
  refine JL_pd rfl (det_move rfl) ?_
  refine JL_pd rfl (det_neq rfl rfl) ?_
  refine JL_nil ?_
  refine JE_seq ?_
  -- stop: cond
  refine JC_ifn rfl (fun h1 => ?_) (fun h1 => ?_)
  · exact absurd rfl h1
  refine JC_skip ?_
  refine JE_seq ?_
  refine JC_seq ?_
  refine JC_region ?_
  refine JL_pd rfl (det_assign rfl) ?_
  refine JL_nil ?_
  refine JE_seq ?_
  refine JC_seq ?_
  refine JC_region ?_
  refine JL_dt rfl (det_loadKA rfl Try.isAgg30 Try.sizeOf30 rfl rfl) ?_
  refine JL_pd rfl (det_move rfl) ?_
  refine JL_step rfl rfl rfl (jo_call rfl rfl Try.call75 rfl (fit_jo x a c feet V.hs (by have := V.n; omega) V.ft)) fun x23 => ?_
  refine JL_pd rfl (det_assign rfl) ?_
  refine JL_nil ?_
  refine JE_seq ?_
  refine JC_seq ?_
  refine JC_region ?_
  refine JL_step rfl rfl rfl (jo_makeMap ekI vB) fun b24 => ?_
  refine JL_pd rfl (det_assign rfl) ?_
  refine JL_nil ?_
  refine JE_seq ?_
  refine JC_seq ?_
  refine JC_seq ?_
  refine JC_region ?_
  refine JL_pd rfl (det_move rfl) ?_
  refine JL_pd rfl (det_len rfl Try.runUnderlying22) ?_
  refine JL_pd rfl (det_move rfl) ?_
  refine JL_nil ?_
  refine JE_seq ?_
  refine JC_block ?_
  -- stop: loop
  obtain ⟨fb, ws, hws⟩ := x23
  dsimp only
  have F := fit_facts V.hs.n (fun s hs => (V.hs.s s hs).1) V.ft hws
  have hfn := V.n
  have hwl : ws.length = feet.length := F.fit.n
  have hzl : (feet.zip ws).length = feet.length := by rw [List.length_zip]; omega
  have hwr : ∀ i (h : i < ws.length), -1 ≤ ws[i] ∧ ws[i] ≤ 9 := fun i h => by
    have hz : (feet[i]'(by omega), ws[i]) ∈ feet.zip ws := by
      rw [List.mem_iff_getElem]
      exact ⟨i, by omega, by simp⟩
    have := F.fit.ok _ hz
    unfold wearOk at this
    simp only [Bool.or_eq_true, decide_eq_true_eq, Bool.and_eq_true] at this
    rcases this with e | ⟨e, _⟩
    · omega
    · have := inI_iff.1 e; omega
  refine JC_loopF (γ := Nat) (fun i => i ≤ feet.length) (fun i => [(27, I i)]) (fun i => [mp b24 ekI vB (inM (((feet.zip ws).take i).foldl barF []))]) (fun i => feet.length - i) 0 (Nat.zero_le _) (stsub_consI rfl rfl stsub_nil) (ht_mp (by rw [List.take_zero]; rfl) ht_nil) ?_
  intro i hi K hK
  dsimp only [List.cons_append, List.nil_append]
  generalize hS : ((feet.zip ws).take i).foldl barF [] = S
  refine JC_seq ?_
  refine JC_region ?_
  refine JL_pd rfl (det_lss rfl rfl) ?_
  refine JL_nil ?_
  refine JE_seq ?_
  refine JC_seq ?_
  -- stop: cond
  refine JC_if rfl (fun h2 => ?_) (fun h2 => ?_)
  · have hi2 : i < feet.length := by omega
    have hsn : ((feet.zip ws).take (i + 1)).foldl barF [] = barF S (feet[i], ws[i]'(by omega)) := by
      rw [foldl_snoc barF [] _ i (by omega), hS]; simp
    refine JC_skip ?_
    refine JE_seq ?_
    refine JC_seq ?_
    refine JC_block ?_
    refine JC_seq ?_
    refine JC_region ?_
    refine JL_pd rfl (det_move rfl) ?_
    refine JL_dt rfl (det_indexAddr rfl rfl (by first | rfl | omega) (by first | assumption | omega | decide) Try.runUnderlying22 Try.sizeOf3) ?_
    refine JL_dt rfl (det_loadE (n := feet.length) (xs := ws) (v := I (ws[i]'(by omega))) rfl hi2 Try.isAgg3 hwl.symm rfl) ?_
    refine JL_pd rfl (det_assign rfl) ?_
    refine JL_pd rfl (det_assign rfl) ?_
    refine JL_nil ?_
    refine JE_seq ?_
    refine JC_seq ?_
    refine JC_region ?_
    refine JL_pd rfl (det_move rfl) ?_
    refine JL_pd rfl (det_eql rfl rfl) ?_
    refine JL_nil ?_
    refine JE_seq ?_
    -- stop: cond
    refine JC_if rfl (fun h3 => ?_) (fun h3 => ?_)
    · rw [barF, if_pos h3] at hsn
      refine JC_region ?_
      refine JL_pd rfl (det_move rfl) ?_
      refine JL_pd rfl (det_move rfl) ?_
      refine JL_pd rfl (det_move rfl) ?_
      refine JL_dt rfl (det_indexAddr rfl rfl (by first | rfl | omega) (by first | assumption | omega | decide) Try.runUnderlying22 Try.sizeOf3) ?_
      refine JL_dt rfl (det_loadE rfl (by first | assumption | omega | decide) Try.isAgg3 rfl rfl) ?_
      refine JL_step0 rfl rfl (jo_mapUpdate (ek := ekI) (ev := vB) feet[i] true (.inl rfl) rfl rfl rfl (goodI Try.underlying3) Try.underlying109) fun _ => ?_
      refine JL_nil ?_
      refine JE_block ?_
      refine JE_seq ?_
      refine JC_region ?_
      refine JL_pd rfl (det_add rfl rfl ⟨by omega, by omega⟩) ?_
      refine JL_pd rfl (det_move rfl) ?_
      refine JL_nil ?_
      -- stop: end
      exact JE_roundF hK (i + 1) (by omega) (by omega) (stsub_consI rfl (by omega) stsub_nil) (ht_mp (by rw [hsn, inM_add]) ht_nil)
    · rw [barF, if_neg h3] at hsn
      refine JC_skip ?_
      refine JE_block ?_
      refine JE_seq ?_
      refine JC_region ?_
      refine JL_pd rfl (det_add rfl rfl ⟨by omega, by omega⟩) ?_
      refine JL_pd rfl (det_move rfl) ?_
      refine JL_nil ?_
      -- stop: end
      exact JE_roundF hK (i + 1) (by omega) (by omega) (stsub_consI rfl (by omega) stsub_nil) (ht_mp (by rw [hsn]) ht_nil)
  · obtain rfl : i = feet.length := by omega
    rw [List.take_of_length_le (by omega)] at hS
    refine JC_exit ?_
    refine JE_seq_exit ?_
    refine JE_then_exit ?_
    refine JE_block_here ?_
    refine JE_seq ?_
    refine JC_seq ?_
    refine JC_seq ?_
    refine JC_region ?_
    refine JL_pd rfl (det_move rfl) ?_
    refine JL_nil ?_
    refine JE_seq ?_
    refine JC_block ?_
    -- stop: loop
    refine JC_loopF (γ := Nat) (fun i => i ≤ 10) (fun i => [(40, I i)]) (fun i => [mp b24 ekI vB (inM (roundsR (feet.zip ws) S i))]) (fun i => 10 - i) 0 (by omega) (stsub_consI rfl rfl stsub_nil) (ht_mp rfl ht_nil) ?_
    intro n hn K2 hK2
    dsimp only [List.cons_append, List.nil_append]
    generalize hT : roundsR (feet.zip ws) S n = T
    refine JC_seq ?_
    refine JC_region ?_
    refine JL_pd rfl (det_lss rfl rfl) ?_
    refine JL_nil ?_
    refine JE_seq ?_
    refine JC_seq ?_
    -- stop: cond
    refine JC_if rfl (fun h3 => ?_) (fun h3 => ?_)
    · refine JC_skip ?_
      refine JE_seq ?_
      refine JC_seq ?_
      refine JC_block ?_
      refine JC_seq ?_
      refine JC_region ?_
      refine JL_pd rfl (det_move rfl) ?_
      refine JL_pd rfl (det_len rfl Try.runUnderlying22) ?_
      refine JL_pd rfl (det_move rfl) ?_
      refine JL_nil ?_
      refine JE_seq ?_
      refine JC_block ?_
      -- stop: loop
      refine JC_loopF (γ := Nat) (fun i => i ≤ feet.length) (fun i => [(44, I i)]) (fun i => [mp b24 ekI vB (inM (((feet.zip ws).take i).foldl addR T))]) (fun i => feet.length - i) 0 (Nat.zero_le _) (stsub_consI rfl rfl stsub_nil) (ht_mp (by rw [List.take_zero]; rfl) ht_nil) ?_
      intro i hi K3 hK3
      dsimp only [List.cons_append, List.nil_append]
      generalize hU : ((feet.zip ws).take i).foldl addR T = U
      refine JC_seq ?_
      refine JC_region ?_
      refine JL_pd rfl (det_lss rfl rfl) ?_
      refine JL_nil ?_
      refine JE_seq ?_
      refine JC_seq ?_
      -- stop: cond
      refine JC_if rfl (fun h4 => ?_) (fun h4 => ?_)
      · have hi2 : i < feet.length := by omega
        have hwi := hwr i (by omega)
        have hsn : ((feet.zip ws).take (i + 1)).foldl addR T = addR U (feet[i], ws[i]'(by omega)) := by
          rw [foldl_snoc addR T _ i (by omega), hU]; simp
        refine JC_skip ?_
        refine JE_seq ?_
        refine JC_seq ?_
        refine JC_block ?_
        refine JC_seq ?_
        refine JC_region ?_
        refine JL_pd rfl (det_move rfl) ?_
        refine JL_dt rfl (det_indexAddr rfl rfl (by first | rfl | omega) (by first | assumption | omega | decide) Try.runUnderlying22 Try.sizeOf3) ?_
        refine JL_dt rfl (det_loadE (n := feet.length) (xs := ws) (v := I (ws[i]'(by omega))) rfl hi2 Try.isAgg3 hwl.symm rfl) ?_
        refine JL_pd rfl (det_assign rfl) ?_
        refine JL_pd rfl (det_assign rfl) ?_
        refine JL_nil ?_
        refine JE_seq ?_
        refine JC_seq ?_
        refine JC_region ?_
        refine JL_pd rfl (det_move rfl) ?_
        refine JL_pd rfl (det_neq rfl rfl) ?_
        refine JL_pd rfl (det_move rfl) ?_
        -- stop: guard 2
        refine JL_join1 10 61 (.bool (!decide (ws[i] = -1) && (decide (ws[i] ∈ U) || decide (ws[i] - 1 ∈ U)))) (fun hj => ?_) ?_
        · refine JL_split (d0 := 51) rfl (fun q1 => ?_) (fun q1 => ?_)
          · refine JL_guard rfl rfl q1 ?_
            refine JL_pd rfl (det_move rfl) ?_
            refine JL_guard rfl rfl q1 ?_
            refine JL_pd rfl (det_move rfl) ?_
            refine JL_guard rfl rfl q1 ?_
            refine JL_dt rfl (det_lookupI (S := U) (ws[i]'(by omega)) rfl rfl (goodI Try.underlying3) Try.underlying109 Try.zeroValue4) ?_
            refine JL_guard rfl rfl q1 ?_
            refine JL_pd rfl (det_move rfl) ?_
            refine JL_split (d0 := 55) rfl (fun q2 => ?_) (fun q2 => ?_)
            · refine JL_skip rfl rfl q2 rfl ?_
              refine JL_skip rfl rfl q2 rfl ?_
              refine JL_skip rfl rfl q2 rfl ?_
              refine JL_skip rfl rfl q2 rfl ?_
              refine JL_guard rfl rfl q1 ?_
              refine JL_pd rfl (det_pick_t rfl q2 rfl) ?_
              refine JL_pd rfl (det_pick_t rfl q1 rfl) ?_
              exact hj (by kernel_rfl) (stsub_consB rfl (by clear hj; first | rfl | (simp only [q1, q2, Bool.and_true, Bool.true_and, Bool.false_and, Bool.and_false, Bool.or_true, Bool.true_or, Bool.or_false, Bool.false_or, Bool.not_true, Bool.not_false]; done) | (simp [q1, q2]; done) | (simp at q1; done) | (simp at q2; done) | (simp [q1, q2] <;> omega) | (exfalso; simp at q1 q2; omega) | (simp [q2] at q1; done) | (simp [q1] at q2; done)) stsub_nil)
            · refine JL_guard rfl rfl q2 ?_
              refine JL_pd rfl (det_move rfl) ?_
              refine JL_guard rfl rfl q2 ?_
              refine JL_pd rfl (det_move rfl) ?_
              refine JL_guard rfl rfl q2 ?_
              refine JL_pd rfl (det_sub rfl rfl ⟨by omega, by omega⟩) ?_
              refine JL_guard rfl rfl q2 ?_
              refine JL_dt rfl (det_lookupI (S := U) (ws[i]'(by omega) - 1) rfl rfl (goodI Try.underlying3) Try.underlying109 Try.zeroValue4) ?_
              refine JL_guard rfl rfl q1 ?_
              refine JL_pd rfl (det_pick_f rfl q2 rfl) ?_
              refine JL_pd rfl (det_pick_t rfl q1 rfl) ?_
              exact hj (by kernel_rfl) (stsub_consB rfl (by clear hj; first | rfl | (simp only [q1, q2, Bool.and_true, Bool.true_and, Bool.false_and, Bool.and_false, Bool.or_true, Bool.true_or, Bool.or_false, Bool.false_or, Bool.not_true, Bool.not_false]; done) | (simp [q1, q2]; done) | (simp at q1; done) | (simp at q2; done) | (simp [q1, q2] <;> omega) | (exfalso; simp at q1 q2; omega) | (simp [q2] at q1; done) | (simp [q1] at q2; done)) stsub_nil)
          · refine JL_skip rfl rfl q1 rfl ?_
            refine JL_skip rfl rfl q1 rfl ?_
            refine JL_skip rfl rfl q1 rfl ?_
            refine JL_skip rfl rfl q1 rfl ?_
            refine JL_skipU rfl rfl rfl ?_
            refine JL_skipU rfl rfl rfl ?_
            refine JL_skipU rfl rfl rfl ?_
            refine JL_skipU rfl rfl rfl ?_
            refine JL_skip rfl rfl q1 rfl ?_
            refine JL_pd rfl (det_pick_f rfl q1 rfl) ?_
            exact hj (by kernel_rfl) (stsub_consB rfl (by clear hj; first | rfl | (simp only [q1, Bool.and_true, Bool.true_and, Bool.false_and, Bool.and_false, Bool.or_true, Bool.true_or, Bool.or_false, Bool.false_or, Bool.not_true, Bool.not_false]; done) | (simp [q1]; done) | (simp at q1; done) | (simp [q1] <;> omega) | (exfalso; simp at q1; omega)) stsub_nil)
        refine JL_nil ?_
        refine JE_seq ?_
        -- stop: cond
        refine JC_cond rfl (fun h5 => ?_) (fun h5 => ?_)
        · simp only [Bool.and_eq_true, Bool.or_eq_true, Bool.not_eq_true', decide_eq_true_eq, decide_eq_false_iff_not] at h5
          rw [addR, if_pos h5] at hsn
          refine JC_region ?_
          refine JL_pd rfl (det_move rfl) ?_
          refine JL_pd rfl (det_move rfl) ?_
          refine JL_pd rfl (det_move rfl) ?_
          refine JL_dt rfl (det_indexAddr rfl rfl (by first | rfl | omega) (by first | assumption | omega | decide) Try.runUnderlying22 Try.sizeOf3) ?_
          refine JL_dt rfl (det_loadE rfl (by first | assumption | omega | decide) Try.isAgg3 rfl rfl) ?_
          refine JL_step0 rfl rfl (jo_mapUpdate (ek := ekI) (ev := vB) feet[i] true (.inl rfl) rfl rfl rfl (goodI Try.underlying3) Try.underlying109) fun _ => ?_
          refine JL_nil ?_
          refine JE_block ?_
          refine JE_seq ?_
          refine JC_region ?_
          refine JL_pd rfl (det_add rfl rfl ⟨by omega, by omega⟩) ?_
          refine JL_pd rfl (det_move rfl) ?_
          refine JL_nil ?_
          -- stop: end
          exact JE_roundF hK3 (i + 1) (by omega) (by omega) (stsub_consI rfl (by omega) stsub_nil) (ht_mp (by rw [hsn, inM_add]) ht_nil)
        · have h5' : ¬ (ws[i] ≠ -1 ∧ (ws[i] ∈ U ∨ ws[i] - 1 ∈ U)) := fun q => by
            have : (!decide (ws[i] = -1) && (decide (ws[i] ∈ U) || decide (ws[i] - 1 ∈ U))) = true := by simpa using q
            rw [this] at h5; cases h5
          rw [addR, if_neg h5'] at hsn
          refine JC_skip ?_
          refine JE_block ?_
          refine JE_seq ?_
          refine JC_region ?_
          refine JL_pd rfl (det_add rfl rfl ⟨by omega, by omega⟩) ?_
          refine JL_pd rfl (det_move rfl) ?_
          refine JL_nil ?_
          -- stop: end
          exact JE_roundF hK3 (i + 1) (by omega) (by omega) (stsub_consI rfl (by omega) stsub_nil) (ht_mp (by rw [hsn]) ht_nil)
      · obtain rfl : i = feet.length := by omega
        rw [List.take_of_length_le (by omega)] at hU
        refine JC_exit ?_
        refine JE_seq_exit ?_
        refine JE_then_exit ?_
        refine JE_block_here ?_
        refine JE_block ?_
        refine JE_seq ?_
        refine JC_region ?_
        refine JL_pd rfl (det_add rfl rfl ⟨by omega, by omega⟩) ?_
        refine JL_pd rfl (det_move rfl) ?_
        refine JL_nil ?_
        -- stop: end
        exact JE_roundF hK2 (n + 1) (by omega) (by omega) (stsub_consI rfl (by omega) stsub_nil) (ht_mp (by rw [← hU, ← hT]; rfl) ht_nil)
    · obtain rfl : n = 10 := by omega
      have hso := sizes_of V.hs.n (fun s hs => (V.hs.s s hs).1) V.ft hws
      rw [hS, hT] at hso
      refine JC_exit ?_
      refine JE_seq_exit ?_
      refine JE_then_exit ?_
      refine JE_block_here ?_
      refine JE_seq ?_
      refine JC_seq ?_
      refine JC_seq ?_
      refine JC_region ?_
      refine JL_pd rfl (det_move rfl) ?_
      refine JL_nil ?_
      refine JE_seq ?_
      refine JC_block ?_
      -- stop: loop
      refine JC_nil 3 1 ?_
      refine JC_loopF (γ := Nat × Value) (fun q => q.1 ≤ 10) (fun q => [(69, I q.1), (7, q.2)]) (fun q => [ow q.2 3 1 (szs T q.1).length ((szs T q.1).flatMap encI)]) (fun q => 10 - q.1) (0, .slice none 0 0) (by simp) (stsub_consI rfl rfl (stsub_cons rfl stsub_nil)) (ht_ow rfl rfl ht_nil) ?_
      rintro ⟨i, v⟩ hi K3 hK3
      dsimp only [List.cons_append, List.nil_append] at hi ⊢
      have hll := szs_len T i
      refine JC_seq ?_
      refine JC_region ?_
      refine JL_pd rfl (det_lss rfl rfl) ?_
      refine JL_nil ?_
      refine JE_seq ?_
      refine JC_seq ?_
      -- stop: cond
      refine JC_if rfl (fun h6 => ?_) (fun h6 => ?_)
      · have hi2 : i < 10 := by omega
        refine JC_skip ?_
        refine JE_seq ?_
        refine JC_seq ?_
        refine JC_block ?_
        refine JC_seq ?_
        refine JC_region ?_
        refine JL_pd rfl (det_move rfl) ?_
        refine JL_pd rfl (det_assign rfl) ?_
        refine JL_nil ?_
        refine JE_seq ?_
        refine JC_seq ?_
        refine JC_region ?_
        refine JL_pd rfl (det_move rfl) ?_
        refine JL_pd rfl (det_move rfl) ?_
        refine JL_dt rfl (det_lookupI (S := T) (i : Int) rfl rfl (goodI Try.underlying3) Try.underlying109 Try.zeroValue4) ?_
        refine JL_nil ?_
        refine JE_seq ?_
        -- stop: cond
        refine JC_if rfl (fun h7 => ?_) (fun h7 => ?_)
        · refine JC_region ?_
          refine JL_pd rfl (det_move rfl) ?_
          refine JL_pd rfl (det_move rfl) ?_
          refine JL_step rfl rfl rfl (jo_buildSlice rfl (bsl_22_1_0 _)) fun b77 => ?_
          refine JL_step rfl rfl rfl (jo_append el_22 rfl rfl rfl rfl (by omega)) fun b78 => ?_
          refine JL_pd rfl (det_assign rfl) ?_
          refine JL_nil ?_
          refine JE_block ?_
          refine JE_seq ?_
          refine JC_region ?_
          refine JL_pd rfl (det_add rfl rfl ⟨by omega, by omega⟩) ?_
          refine JL_pd rfl (det_move rfl) ?_
          refine JL_nil ?_
          -- stop: end
          exact JE_roundF hK3 (i + 1, .slice (some ⟨b78.1, 0, none⟩) ((szs T i).length + 1) b78.2) (by simp only; omega) (by simp only; omega) (stsub_consI rfl (by simp only; omega) (stsub_cons rfl stsub_nil)) (ht_ow (by rw [szs_snoc_in h7, List.length_append]; rfl) (by rw [szs_snoc_in h7, List.flatMap_append]; rfl) ht_nil)
        · refine JC_skip ?_
          refine JE_block ?_
          refine JE_seq ?_
          refine JC_region ?_
          refine JL_pd rfl (det_add rfl rfl ⟨by omega, by omega⟩) ?_
          refine JL_pd rfl (det_move rfl) ?_
          refine JL_nil ?_
          -- stop: end
          exact JE_roundF hK3 (i + 1, v) (by simp only; omega) (by simp only; omega) (stsub_consI rfl (by simp only; omega) (stsub_cons rfl stsub_nil)) (ht_ow (by rw [szs_snoc_no h7]) (by rw [szs_snoc_no h7]) ht_nil)
      · obtain rfl : i = 10 := by omega
        refine JC_slice (enc := encI) (v := v) (szs T 10) noFp rfl rfl ?_
        rintro av cv rfl
        refine JC_exit ?_
        refine JE_seq_exit ?_
        refine JE_then_exit ?_
        refine JE_block_here ?_
        refine JE_seq ?_
        refine JC_seq ?_
        refine JC_region ?_
        refine JL_pd rfl (det_move rfl) ?_
        refine JL_pd rfl (det_assign rfl) ?_
        refine JL_pd rfl (det_assign rfl) ?_
        refine JL_nil ?_
        refine JE_seq ?_
        refine JC_ret ?_
        -- stop: out
        refine JE_out (.inl rfl) (av, cv, ⟨szs T 10, hso⟩) (results2 Try.results48 (res_tmp rfl) (res_tmp rfl)) rfl (List.Perm.refl _) (fun w h => h.1)
end Go.Proofs.Ytkmaafnbefpdjaa

/- Walks of lend: Short. -/
namespace Go.Proofs.Ytkmaafnbefpdjaa
open Go.RowKit Go.Shelf

/-- The feet of who is served, and there at an hour. -/
def feetA (zs : List (Gr × Int)) (t : Int) : List Int := zs.flatMap fun z => if (srv z && stays z.1 t) = true then z.1.feet else []
theorem feetA_snoc (zs : List (Gr × Int)) (t : Int) (i : Nat) (h : i < zs.length) : feetA (zs.take (i + 1)) t = feetA (zs.take i) t ++ if (srv zs[i] && stays zs[i].1 t) = true then zs[i].1.feet else [] := by
  unfold feetA
  rw [take_snoc h, List.flatMap_append]
  simp
theorem feetA_mem {zs : List (Gr × Int)} {t f : Int} (h : f ∈ feetA zs t) : ∃ z ∈ zs, f ∈ z.1.feet := by
  obtain ⟨z, hz, hf⟩ := List.mem_flatMap.1 h
  split at hf
  · exact ⟨z, hz, hf⟩
  · cases hf
theorem feetA_len (t : Int) (m : Nat) : ∀ (zs : List (Gr × Int)), (∀ z ∈ zs, z.1.feet.length ≤ m) → (feetA zs t).length ≤ m * zs.length
  | [], _ => Nat.le_refl _
  | z :: r, h => by
    have h1 := feetA_len t m r fun y hy => h y (List.mem_cons_of_mem _ hy)
    have h2 := h z (List.mem_cons_self ..)
    unfold feetA at h1 ⊢
    rw [List.flatMap_cons, List.length_append, List.length_cons, Nat.mul_add]
    split
    · omega
    · rw [List.length_nil]; omega
/-- Have some feet none? -/
def shB (sh feet : List Int) : Bool := decide (0 < lacksV sh feet 1024)
theorem short_fit {sh feet ws : List Int} (hn : sh.length = 10) (h0 : ∀ x ∈ sh, 0 ≤ x) (hf : ∀ f ∈ feet, 0 ≤ f ∧ f ≤ 9) (h : FitOk sh feet ws) : decide ((-1 : Int) ∈ ws) = shB sh feet := by
  have e := lacks_eq hf (fit_facts hn h0 hf h)
  unfold shB
  rw [e]
  refine decide_eq_decide.2 ?_
  unfold bare cntW
  constructor
  · intro hm
    have : 0 < ws.countP fun w => decide (w = -1) := List.countP_pos_iff.2 ⟨-1, hm, by simp⟩
    omega
  · intro hm
    obtain ⟨w, hw, h2⟩ := List.countP_pos_iff.1 (show 0 < ws.countP fun w => decide (w = -1) by omega)
    rw [← of_decide_eq_true h2]; exact hw
/-- The hours at which a plan is short. -/
def shV (sh : List Int) (zs : List (Gr × Int)) : Nat → List Int
  | 0 => []
  | n + 1 => shV sh zs n ++ if shB sh (feetA zs n) = true then [(n : Int)] else []
theorem shV_in {sh : List Int} {zs : List (Gr × Int)} {i : Nat} (h : shB sh (feetA zs i) = true) : shV sh zs (i + 1) = shV sh zs i ++ [(i : Int)] := by
  show shV sh zs i ++ (if shB sh (feetA zs i) = true then [(i : Int)] else []) = _
  rw [if_pos h]
theorem shV_no {sh : List Int} {zs : List (Gr × Int)} {i : Nat} (h : shB sh (feetA zs i) = false) : shV sh zs (i + 1) = shV sh zs i := by
  show shV sh zs i ++ (if shB sh (feetA zs i) = true then [(i : Int)] else []) = _
  rw [if_neg (by rw [h]; decide), List.append_nil]
theorem shV_len (sh : List Int) (zs : List (Gr × Int)) : ∀ n : Nat, (shV sh zs n).length ≤ n
  | 0 => Nat.le_refl _
  | n + 1 => by
    unfold shV
    rw [List.length_append]
    have := shV_len sh zs n
    split <;> simp <;> omega
theorem Short_je (x : Hx) (ga : Option Addr) (gc : Nat) (xs : List Gx) (a : Option Addr) (cap : Nat) (plan : List Int) (h : plannedE x.h (gs xs) plan ≠ 0) : Cv Try.prog 38 [.agg #[I x.h.lanes, .slice x.a x.h.shoes.length x.c], .slice ga xs.length gc, .slice a plan.length cap] (KAnd (KHx x) (KAnd (KGs ga gc xs) (KSl a plan.length cap encI plan))) (.tuple #[.slice none 0 0, I (plannedE x.h (gs xs) plan)]) := by
  by_cases c1 : fault x.h (gs xs) = 0
  · by_cases c2 : isPlan x.h.lanes (gs xs) plan = true
    · have c3 : rightB (gs xs) plan = false := by
        cases e : rightB (gs xs) plan with
        | false => rfl
        | true => exact absurd (by unfold plannedE; rw [if_neg (by omega), if_neg (by rw [c2]; decide), if_neg (by rw [e]; decide)]) h
      have hE : plannedE x.h (gs xs) plan = 8 := by unfold plannedE; rw [if_neg (by omega), if_neg (by rw [c2]; decide), if_pos c3]
      rw [hE]
      refine Cx_of Try.func38 rfl Try.ntmps38 rfl fun w0 M0 => ?_
      refine JC_seq ?_
      refine JC_region ?_
      refine JL_step rfl rfl rfl (jo_box rfl rfl) fun b3 => ?_
      refine JL_pd rfl (det_assign rfl) ?_
      refine JL_pd rfl (det_assign rfl) ?_
      refine JL_nil ?_
      refine JE_seq ?_
      refine JC_seq ?_
      refine JC_seq ?_
      refine JC_region ?_
      refine JL_dt rfl (det_loadKA rfl Try.isAgg30 Try.sizeOf30 rfl rfl) ?_
      refine JL_pd rfl (det_move rfl) ?_
      refine JL_pd rfl (det_move rfl) ?_
      refine JL_step rfl rfl rfl (jo_call rfl rfl Try.call65 rfl (planned_jo x ga gc xs a cap plan c1 c2)) fun x19 => ?_
      refine JL_pd rfl (det_move rfl) ?_
      refine JL_pd rfl (det_extract rfl rfl) ?_
      refine JL_pd rfl (det_extract rfl rfl) ?_
      refine JL_pd rfl (det_assign rfl) ?_
      refine JL_pd rfl (det_assign rfl) ?_
      refine JL_nil ?_
      refine JE_seq ?_
      refine JC_seq ?_
      refine JC_region ?_
      refine JL_pd rfl (det_move rfl) ?_
      refine JL_pd rfl (det_neq rfl rfl) ?_
      refine JL_nil ?_
      refine JE_seq ?_
      -- stop: cond
      refine JC_ifn rfl (fun h1 => ?_) (fun h1 => ?_)
      · refine JC_seq ?_
        refine JC_region ?_
        refine JL_pd rfl (det_move rfl) ?_
        refine JL_pd rfl (det_assign rfl) ?_
        refine JL_pd rfl (det_assign rfl) ?_
        refine JL_nil ?_
        refine JE_seq ?_
        refine JC_ret ?_
        refine JE_seq_ret ?_
        -- stop: out
        refine JE_out (.inl rfl) () (results2 Try.results38 (res_tmp rfl) (res_tmp rfl)) (by rw [c3]; rfl) (List.Perm.refl _) (fun _ _ => trivial)
      · rw [c3] at h1
        exact absurd h1 (by decide)
    · have hE : plannedE x.h (gs xs) plan = 2 := by unfold plannedE; rw [if_neg (by omega), if_pos (by simpa using c2)]
      rw [hE]
      refine Cx_of Try.func38 rfl Try.ntmps38 rfl fun w0 M0 => ?_
      refine JC_seq ?_
      refine JC_region ?_
      refine JL_step rfl rfl rfl (jo_box rfl rfl) fun b3 => ?_
      refine JL_pd rfl (det_assign rfl) ?_
      refine JL_pd rfl (det_assign rfl) ?_
      refine JL_nil ?_
      refine JE_seq ?_
      refine JC_seq ?_
      refine JC_seq ?_
      refine JC_region ?_
      refine JL_dt rfl (det_loadKA rfl Try.isAgg30 Try.sizeOf30 rfl rfl) ?_
      refine JL_pd rfl (det_move rfl) ?_
      refine JL_pd rfl (det_move rfl) ?_
      refine JL_step rfl rfl rfl (jo_callv rfl rfl Try.call65 rfl (planned_j2 x ga gc xs a cap plan c1 (by simpa using c2))) fun _ => ?_
      refine JL_pd rfl (det_move rfl) ?_
      refine JL_pd rfl (det_extract rfl rfl) ?_
      refine JL_pd rfl (det_extract rfl rfl) ?_
      refine JL_pd rfl (det_assign rfl) ?_
      refine JL_pd rfl (det_assign rfl) ?_
      refine JL_nil ?_
      refine JE_seq ?_
      refine JC_seq ?_
      refine JC_region ?_
      refine JL_pd rfl (det_move rfl) ?_
      refine JL_pd rfl (det_neq rfl rfl) ?_
      refine JL_nil ?_
      refine JE_seq ?_
      -- stop: cond
      refine JC_ifn rfl (fun h1 => ?_) (fun h1 => ?_)
      · refine JC_seq ?_
        refine JC_region ?_
        refine JL_pd rfl (det_move rfl) ?_
        refine JL_pd rfl (det_assign rfl) ?_
        refine JL_pd rfl (det_assign rfl) ?_
        refine JL_nil ?_
        refine JE_seq ?_
        refine JC_ret ?_
        refine JE_seq_ret ?_
        -- stop: out
        refine JE_out (.inl rfl) () (results2 Try.results38 (res_tmp rfl) (res_tmp rfl)) rfl (List.Perm.refl _) (fun _ _ => trivial)
      · exact absurd h1 (by decide)
  · have hE : plannedE x.h (gs xs) plan = fault x.h (gs xs) := by unfold plannedE; rw [if_pos c1]
    rw [hE]
    refine Cx_of Try.func38 rfl Try.ntmps38 rfl fun w0 M0 => ?_
    refine JC_seq ?_
    refine JC_region ?_
    refine JL_step rfl rfl rfl (jo_box rfl rfl) fun b3 => ?_
    refine JL_pd rfl (det_assign rfl) ?_
    refine JL_pd rfl (det_assign rfl) ?_
    refine JL_nil ?_
    refine JE_seq ?_
    refine JC_seq ?_
    refine JC_seq ?_
    refine JC_region ?_
    refine JL_dt rfl (det_loadKA rfl Try.isAgg30 Try.sizeOf30 rfl rfl) ?_
    refine JL_pd rfl (det_move rfl) ?_
    refine JL_pd rfl (det_move rfl) ?_
    refine JL_step rfl rfl rfl (jo_callv rfl rfl Try.call65 rfl (planned_j1 x ga gc xs a cap plan c1)) fun _ => ?_
    refine JL_pd rfl (det_move rfl) ?_
    refine JL_pd rfl (det_extract rfl rfl) ?_
    refine JL_pd rfl (det_extract rfl rfl) ?_
    refine JL_pd rfl (det_assign rfl) ?_
    refine JL_pd rfl (det_assign rfl) ?_
    refine JL_nil ?_
    refine JE_seq ?_
    refine JC_seq ?_
    refine JC_region ?_
    refine JL_pd rfl (det_move rfl) ?_
    refine JL_pd rfl (det_neq rfl rfl) ?_
    refine JL_nil ?_
    refine JE_seq ?_
    -- stop: cond
    refine JC_ifn rfl (fun h1 => ?_) (fun h1 => ?_)
    · refine JC_seq ?_
      refine JC_region ?_
      refine JL_pd rfl (det_move rfl) ?_
      refine JL_pd rfl (det_assign rfl) ?_
      refine JL_pd rfl (det_assign rfl) ?_
      refine JL_nil ?_
      refine JE_seq ?_
      refine JC_ret ?_
      refine JE_seq_ret ?_
      -- stop: out
      refine JE_out (.inl rfl) () (results2 Try.results38 (res_tmp rfl) (res_tmp rfl)) rfl (List.Perm.refl _) (fun _ _ => trivial)
    · exact absurd h1 c1
theorem containsI_n (a : Option Addr) (cap : Nat) (xs : List Int) (v : Int) (n : Nat) (h : n = xs.length) : Cv Try.prog 74 [.slice a n cap, I v] (KSl a n cap encI xs) (.bool (decide (v ∈ xs))) := by
  subst h; exact containsI_j a cap xs v
set_option maxRecDepth 100000 in
set_option maxHeartbeats 1000000 in
theorem Short_jo (x : Hx) (ga : Option Addr) (gc : Nat) (xs : List Gx) (a : Option Addr) (cap : Nat) (plan : List Int) (h : plannedE x.h (gs xs) plan = 0) : Cr Try.prog 38 [.agg #[I x.h.lanes, .slice x.a x.h.shoes.length x.c], .slice ga xs.length gc, .slice a plan.length cap] (KAnd (KHx x) (KAnd (KGs ga gc xs) (KSl a plan.length cap encI plan)))
    (fun q : Option Addr × Nat => .tuple #[.slice q.1 (shV x.h.shoes ((gs xs).zip plan) 31).length q.2, I 0]) (fun q => KSl q.1 (shV x.h.shoes ((gs xs).zip plan) 31).length q.2 encI (shV x.h.shoes ((gs xs).zip plan) 31)) := by
  have c1 : fault x.h (gs xs) = 0 := by
    by_cases e : fault x.h (gs xs) = 0
    · exact e
    · unfold plannedE at h; rw [if_pos e] at h; exact h
  have c2 : isPlan x.h.lanes (gs xs) plan = true := by
    cases e : isPlan x.h.lanes (gs xs) plan with
    | true => rfl
    | false => unfold plannedE at h; rw [if_neg (by omega), if_pos e] at h; exact absurd h (by decide)
  have c3 : rightB (gs xs) plan = true := by
    cases e : rightB (gs xs) plan with
    | true => rfl
    | false => unfold plannedE at h; rw [if_neg (by omega), if_neg (by rw [c2]; decide), if_pos e] at h; exact absurd h (by decide)
  have V := vld_of c1
  have hgl : (gs xs).length = xs.length := List.length_map _
  have hn : xs.length ≤ 8 := by have := V.n; rwa [hgl] at this
  have hip := c2
  unfold isPlan at hip
  rw [Bool.and_eq_true, decide_eq_true_eq, List.all_eq_true] at hip
  have hpl : plan.length = xs.length := by rw [hip.2, hgl]
  refine Cx_of Try.func38 rfl Try.ntmps38 rfl fun w0 M0 => ?_
  refine JC_seq ?_
  refine JC_region ?_
  refine JL_step rfl rfl rfl (jo_box rfl rfl) fun b3 => ?_
  refine JL_pd rfl (det_assign rfl) ?_
  refine JL_pd rfl (det_assign rfl) ?_
  refine JL_nil ?_
  refine JE_seq ?_
  refine JC_seq ?_
  refine JC_seq ?_
  refine JC_region ?_
  refine JL_dt rfl (det_loadKA rfl Try.isAgg30 Try.sizeOf30 rfl rfl) ?_
  refine JL_pd rfl (det_move rfl) ?_
  refine JL_pd rfl (det_move rfl) ?_
  refine JL_step rfl rfl rfl (jo_call rfl rfl Try.call65 rfl (planned_jo x ga gc xs a cap plan c1 c2)) fun x19 => ?_
  refine JL_pd rfl (det_move rfl) ?_
  refine JL_pd rfl (det_extract rfl rfl) ?_
  refine JL_pd rfl (det_extract rfl rfl) ?_
  refine JL_pd rfl (det_assign rfl) ?_
  refine JL_pd rfl (det_assign rfl) ?_
  refine JL_nil ?_
  refine JE_seq ?_
  refine JC_seq ?_
  refine JC_region ?_
  refine JL_pd rfl (det_move rfl) ?_
  refine JL_pd rfl (det_neq rfl rfl) ?_
  refine JL_nil ?_
  refine JE_seq ?_
  -- stop: cond
  refine JC_ifn rfl (fun h1 => ?_) (fun h1 => ?_)
  · exact absurd (if_pos c3) h1
  refine JC_skip ?_
  refine JE_seq ?_
  refine JC_seq ?_
  refine JC_region ?_
  refine JL_pd rfl (det_assign rfl) ?_
  refine JL_nil ?_
  refine JE_seq ?_
  refine JC_seq ?_
  refine JC_seq ?_
  refine JC_region ?_
  refine JL_pd rfl (det_move rfl) ?_
  refine JL_nil ?_
  refine JE_seq ?_
  refine JC_block ?_
  -- stop: loop
  obtain ⟨zs, hzs⟩ : ∃ zs, (gs xs).zip plan = zs := ⟨_, rfl⟩
  have hzl : zs.length = xs.length := by rw [← hzs, List.length_zip, hgl]; omega
  have hzi : ∀ i (h : i < xs.length), zs[i]'(by omega) = (xs[i].g, plan[i]'(by omega)) := fun i h => by
    subst hzs; simp [gs]
  have hz6 : ∀ z ∈ zs, z.1.feet.length ≤ 6 := fun z hz => by
    subst hzs
    have := V.fw _ (List.of_mem_zip hz).1
    omega
  have hz9 : ∀ t : Int, ∀ f ∈ feetA zs t, 0 ≤ f ∧ f ≤ 9 := fun t f hf => by
    obtain ⟨z, hz, hzf⟩ := feetA_mem hf
    subst hzs
    exact (V.gr _ (List.of_mem_zip hz).1).ft f hzf
  refine JC_keep b3 noFp ?_
  refine JC_nil 3 1 ?_
  refine JC_loopF (γ := Nat × Value) (fun q => q.1 ≤ 31) (fun q => [(25, I q.1), (10, q.2)]) (fun q => [ow q.2 3 1 (shV x.h.shoes zs q.1).length ((shV x.h.shoes zs q.1).flatMap encI)]) (fun q => 31 - q.1) (0, .slice none 0 0) (by simp) (stsub_consI rfl rfl (stsub_cons rfl stsub_nil)) (ht_ow rfl rfl ht_nil) ?_
  rintro ⟨t, v⟩ ht K hK
  dsimp only [List.cons_append, List.nil_append] at ht ⊢
  refine JC_seq ?_
  refine JC_region ?_
  refine JL_pd rfl (det_lss rfl rfl) ?_
  refine JL_nil ?_
  refine JE_seq ?_
  refine JC_seq ?_
  -- stop: cond
  refine JC_if rfl (fun h2 => ?_) (fun h2 => ?_)
  · have ht2 : t < 31 := by omega
    refine JC_skip ?_
    refine JE_seq ?_
    refine JC_seq ?_
    refine JC_block ?_
    refine JC_seq ?_
    refine JC_region ?_
    refine JL_pd rfl (det_move rfl) ?_
    refine JL_pd rfl (det_assign rfl) ?_
    refine JL_nil ?_
    refine JE_seq ?_
    refine JC_seq ?_
    refine JC_region ?_
    refine JL_pd rfl (det_assign rfl) ?_
    refine JL_nil ?_
    refine JE_seq ?_
    refine JC_seq ?_
    refine JC_seq ?_
    refine JC_region ?_
    refine JL_pd rfl (det_move rfl) ?_
    refine JL_pd rfl (det_len rfl Try.runUnderlying32) ?_
    refine JL_pd rfl (det_move rfl) ?_
    refine JL_nil ?_
    refine JE_seq ?_
    refine JC_block ?_
    -- stop: loop
    refine JC_nil 3 1 ?_
    refine JC_loopF (γ := Nat × Value) (fun q => q.1 ≤ xs.length) (fun q => [(30, I q.1), (12, q.2)]) (fun q => [ow q.2 3 1 (feetA (zs.take q.1) t).length ((feetA (zs.take q.1) t).flatMap encI)]) (fun q => xs.length - q.1) (0, .slice none 0 0) (by simp) (stsub_consI rfl rfl (stsub_cons rfl stsub_nil)) (ht_ow (by rw [List.take_zero]; rfl) (by rw [List.take_zero]; rfl) ht_nil) ?_
    rintro ⟨i, u⟩ hi K2 hK2
    dsimp only [List.cons_append, List.nil_append] at hi ⊢
    refine JC_seq ?_
    refine JC_region ?_
    refine JL_pd rfl (det_lss rfl rfl) ?_
    refine JL_nil ?_
    refine JE_seq ?_
    refine JC_seq ?_
    -- stop: cond
    refine JC_if rfl (fun h3 => ?_) (fun h3 => ?_)
    · have hi2 : i < xs.length := by omega
      have hpi := inI_iff.1 (hip.1 _ (List.getElem_mem (show i < plan.length by omega)))
      have hsv : (!decide (plan[i]'(by omega) = -1)) = srv (xs[i].g, plan[i]'(by omega)) := by
        unfold srv
        by_cases e : plan[i]'(by omega) = -1
        · rw [decide_eq_true e, decide_eq_false (by simp only; omega)]; rfl
        · rw [decide_eq_false e, decide_eq_true (by simp only; omega)]; rfl
      have hfe : ∀ z ∈ zs.take i, z.1.feet.length ≤ 6 := fun z hz => hz6 z (List.mem_of_mem_take hz)
      have hfl := feetA_len t 6 (zs.take i) hfe
      rw [List.length_take] at hfl
      have hf6 := V.fw _ (List.mem_map.2 ⟨_, List.getElem_mem hi2, rfl⟩ : xs[i].g ∈ gs xs)
      have hsn := feetA_snoc zs t i (by omega)
      rw [hzi i hi2, ← hsv] at hsn
      refine JC_know (R' := KAnd (KSl xs[i].a xs[i].g.feet.length xs[i].c encI xs[i].g.feet) _) (fun w h => ⟨(Knows.know (F := KFt xs) w h) _ (List.getElem_mem hi2), h⟩) ?_
      refine JC_skip ?_
      refine JE_seq ?_
      refine JC_seq ?_
      refine JC_block ?_
      refine JC_seq ?_
      refine JC_region ?_
      refine JL_pd rfl (det_move rfl) ?_
      refine JL_dt rfl (det_indexAddr rfl rfl (by first | rfl | omega) (by first | assumption | omega | decide) Try.runUnderlying32 Try.sizeOf81) ?_
      refine JL_dt rfl (det_loadEA rfl (by first | assumption | omega | decide) Try.isAgg81 Try.sizeOf81 rfl rfl rfl) ?_
      refine JL_step rfl rfl rfl (jo_alloc0 Try.zeroValue81 rfl) fun b14 => ?_
      refine JL_pd rfl (det_assign rfl) ?_
      refine JL_step0 rfl rfl (jo_store rfl rfl rfl (by first | (simp only [splice_norm]; done) | (simp only [splice_norm]; rfl) | rfl) Try.sizeOf81 rfl rfl) fun _ => ?_
      refine JL_nil ?_
      refine JE_seq ?_
      refine JC_seq ?_
      refine JC_region ?_
      refine JL_pd rfl (det_move rfl) ?_
      refine JL_pd rfl (det_move rfl) ?_
      refine JL_dt rfl (det_indexAddr rfl rfl (by first | rfl | omega) (by first | assumption | omega | decide) Try.runUnderlying22 Try.sizeOf3) ?_
      refine JL_dt rfl (det_loadE rfl (by first | assumption | omega | decide) Try.isAgg3 rfl rfl) ?_
      refine JL_pd rfl (det_neq rfl rfl) ?_
      refine JL_pd rfl (det_move rfl) ?_
      -- stop: guard 5
      refine JL_join1 4 44 (.bool (!decide (plan[i]'(by omega) = -1) && stays xs[i].g t)) (fun hj => ?_) ?_
      · refine JL_split (d0 := 40) rfl (fun q1 => ?_) (fun q1 => ?_)
        · refine JL_guard rfl rfl q1 ?_
          refine JL_dt rfl (det_loadKA rfl Try.isAgg81 Try.sizeOf81 rfl rfl) ?_
          refine JL_guard rfl rfl q1 ?_
          refine JL_pd rfl (det_move rfl) ?_
          refine JL_guard rfl rfl q1 ?_
          refine JL_step rfl rfl rfl (jo_callv rfl rfl Try.call73 rfl (has_j xs[i] (t : Int))) fun _ => ?_
          refine JL_pd rfl (det_pick_t rfl q1 rfl) ?_
          exact hj (by kernel_rfl) (stsub_consB rfl (by clear hj; first | rfl | (simp only [q1, Bool.and_true, Bool.true_and, Bool.false_and, Bool.and_false, Bool.or_true, Bool.true_or, Bool.or_false, Bool.false_or, Bool.not_true, Bool.not_false]; done) | (simp [q1]; done) | (simp at q1; done) | (simp [q1] <;> omega) | (exfalso; simp at q1; omega)) stsub_nil)
        · refine JL_skip rfl rfl q1 rfl ?_
          refine JL_skip rfl rfl q1 rfl ?_
          refine JL_skip rfl rfl q1 rfl ?_
          refine JL_pd rfl (det_pick_f rfl q1 rfl) ?_
          exact hj (by kernel_rfl) (stsub_consB rfl (by clear hj; first | rfl | (simp only [q1, Bool.and_true, Bool.true_and, Bool.false_and, Bool.and_false, Bool.or_true, Bool.true_or, Bool.or_false, Bool.false_or, Bool.not_true, Bool.not_false]; done) | (simp [q1]; done) | (simp at q1; done) | (simp [q1] <;> omega) | (exfalso; simp at q1; omega)) stsub_nil)
      refine JL_nil ?_
      refine JE_seq ?_
      -- stop: cond
      refine JC_cond rfl (fun h4 => ?_) (fun h4 => ?_)
      · rw [if_pos h4] at hsn
        refine JC_region ?_
        refine JL_pd rfl (det_move rfl) ?_
        refine JL_pd rfl (det_fieldAddr rfl fo_81_2) ?_
        refine JL_dt rfl (det_loadK rfl Try.isAgg22 rfl) ?_
        refine JL_step rfl rfl rfl (jo_appendK (e := encI) el_22 rfl rfl encI_one (by omega)) fun b48 => ?_
        refine JL_pd rfl (det_assign rfl) ?_
        refine JL_nil ?_
        refine JE_block ?_
        refine JE_seq ?_
        refine JC_region ?_
        refine JL_pd rfl (det_add rfl rfl ⟨by omega, by omega⟩) ?_
        refine JL_pd rfl (det_move rfl) ?_
        refine JL_nil ?_
        -- stop: end
        exact JE_roundF hK2 (i + 1, b48) (by simp only; omega) (by simp only; omega) (stsub_consI rfl (by simp only; omega) (stsub_cons rfl stsub_nil)) (ht_ow (by rw [hsn, List.length_append]) (by rw [hsn, List.flatMap_append]) ht_nil)
      · rw [if_neg (by rw [h4]; decide), List.append_nil] at hsn
        refine JC_skip ?_
        refine JE_block ?_
        refine JE_seq ?_
        refine JC_region ?_
        refine JL_pd rfl (det_add rfl rfl ⟨by omega, by omega⟩) ?_
        refine JL_pd rfl (det_move rfl) ?_
        refine JL_nil ?_
        -- stop: end
        exact JE_roundF hK2 (i + 1, u) (by simp only; omega) (by simp only; omega) (stsub_consI rfl (by simp only; omega) (stsub_cons rfl stsub_nil)) (ht_ow (by rw [hsn]) (by rw [hsn]) ht_nil)
    · obtain rfl : i = xs.length := by omega
      rw [List.take_of_length_le (show zs.length ≤ xs.length by omega)]
      refine JC_slice (enc := encI) (v := u) (feetA zs t) noFp rfl rfl ?_
      rintro av cv rfl
      have hfl := feetA_len t 6 zs hz6
      refine JC_exit ?_
      refine JE_seq_exit ?_
      refine JE_then_exit ?_
      refine JE_block_here ?_
      refine JE_seq ?_
      refine JC_seq ?_
      refine JC_region ?_
      refine JL_dt rfl (det_loadKA rfl Try.isAgg30 Try.sizeOf30 rfl rfl) ?_
      refine JL_pd rfl (det_move rfl) ?_
      refine JL_step rfl rfl rfl (jo_call rfl rfl Try.call75 rfl (fit_jo x av cv (feetA zs t) V.hs (by omega) (hz9 t))) fun x52 => ?_
      refine JL_step rfl rfl rfl (jo_callv rfl rfl Try.call74 rfl (containsI_n _ _ x52.2.1 _ _ x52.2.2.1.symm)) fun _ => ?_
      refine JL_nil ?_
      refine JE_seq ?_
      -- stop: cond
      have hsf := short_fit V.hs.n (fun s hs => (V.hs.s s hs).1) (hz9 t) x52.2.2
      have hll := shV_len x.h.shoes zs t
      refine JC_cond rfl (fun h5 => ?_) (fun h5 => ?_)
      · rw [hsf] at h5
        refine JC_region ?_
        refine JL_pd rfl (det_move rfl) ?_
        refine JL_pd rfl (det_move rfl) ?_
        refine JL_step rfl rfl rfl (jo_buildSlice rfl (bsl_22_1_0 _)) fun b56 => ?_
        refine JL_step rfl rfl rfl (jo_append el_22 rfl rfl rfl rfl (by omega)) fun b57 => ?_
        refine JL_pd rfl (det_assign rfl) ?_
        refine JL_nil ?_
        refine JE_block ?_
        refine JE_seq ?_
        refine JC_region ?_
        refine JL_pd rfl (det_add rfl rfl ⟨by omega, by omega⟩) ?_
        refine JL_pd rfl (det_move rfl) ?_
        refine JL_nil ?_
        -- stop: end
        exact JE_roundF hK (t + 1, .slice (some ⟨b57.1, 0, none⟩) ((shV x.h.shoes zs t).length + 1) b57.2) (by simp only; omega) (by simp only; omega) (stsub_consI rfl (by simp only; omega) (stsub_cons rfl stsub_nil)) (ht_ow (by rw [shV_in h5, List.length_append]; rfl) (by rw [shV_in h5, List.flatMap_append]; rfl) ht_nil)
      · rw [hsf] at h5
        refine JC_skip ?_
        refine JE_block ?_
        refine JE_seq ?_
        refine JC_region ?_
        refine JL_pd rfl (det_add rfl rfl ⟨by omega, by omega⟩) ?_
        refine JL_pd rfl (det_move rfl) ?_
        refine JL_nil ?_
        -- stop: end
        exact JE_roundF hK (t + 1, v) (by simp only; omega) (by simp only; omega) (stsub_consI rfl (by simp only; omega) (stsub_cons rfl stsub_nil)) (ht_ow (by rw [shV_no h5]) (by rw [shV_no h5]) ht_nil)
  · obtain rfl : t = 31 := by omega
    refine JC_slice (enc := encI) (v := v) (shV x.h.shoes zs 31) noFp rfl rfl ?_
    rintro av cv rfl
    refine JC_exit ?_
    refine JE_seq_exit ?_
    refine JE_then_exit ?_
    refine JE_block_here ?_
    refine JE_seq ?_
    refine JC_seq ?_
    refine JC_region ?_
    refine JL_pd rfl (det_move rfl) ?_
    refine JL_pd rfl (det_assign rfl) ?_
    refine JL_pd rfl (det_assign rfl) ?_
    refine JL_nil ?_
    refine JE_seq ?_
    refine JC_ret ?_
    -- stop: out
    subst hzs
    refine JE_out (.inl rfl) (av, cv) (results2 Try.results38 (res_tmp rfl) (res_tmp rfl)) rfl (List.Perm.refl _) (fun w h => h.1)
end Go.Proofs.Ytkmaafnbefpdjaa
