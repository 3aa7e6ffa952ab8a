/- The statements about lend: LendOnce. -/
import Derived.Test.YtkmaafnbefpdjaaE20
set_option linter.unusedSimpArgs false
set_option linter.unusedVariables false
namespace Go.Proofs.Ytkmaafnbefpdjaa
open Go.RowKit Go.Shelf

def encU (n : Int) : List Value := [.int .u16 n]
instance : Rec encU 1 := ⟨fun _ => rfl, by decide⟩
def wordsOk (ws : List Int) : Prop := ∀ x ∈ ws, 0 ≤ x ∧ x ≤ 65535
def wordV (ws : List Int) (at_ : Nat) : Int := if ws.length = 0 then 0 else ws.getD (at_ % ws.length) 0
theorem word_bd {ws : List Int} (h : wordsOk ws) (n : Nat) : 0 ≤ wordV ws n ∧ wordV ws n ≤ 65535 := by
  unfold wordV
  split
  · omega
  · rename_i hne
    have hlt := Nat.mod_lt n (Nat.pos_of_ne_zero hne)
    rw [List.getD_eq_getElem?_getD, List.getElem?_eq_getElem hlt]
    exact h _ (List.getElem_mem hlt)
theorem word_j (ws : List Int) (a : Option Addr) (c : Nat) (n : Nat) (hw : wordsOk ws) : Cv Try.prog 34 [.slice a ws.length c, I n] (KSl a ws.length c encU ws) (I (wordV ws n)) := by
  refine Cx_of Try.func34 rfl Try.ntmps34 rfl fun w0 M0 => ?_
  refine JC_seq ?_
  refine JC_region ?_
  refine JL_pd rfl (det_assign rfl) ?_
  refine JL_nil ?_
  refine JE_seq ?_
  refine JC_seq ?_
  refine JC_seq ?_
  refine JC_region ?_
  refine JL_pd rfl (det_move rfl) ?_
  refine JL_pd rfl (det_len rfl Try.runUnderlying50) ?_
  refine JL_pd rfl (det_eql rfl rfl) ?_
  refine JL_nil ?_
  refine JE_seq ?_
  -- stop: cond
  refine JC_if rfl (fun h1 => ?_) (fun h1 => ?_)
  · refine JC_seq ?_
    refine JC_region ?_
    refine JL_pd rfl (det_assign rfl) ?_
    refine JL_nil ?_
    refine JE_seq ?_
    refine JC_ret ?_
    refine JE_seq_ret ?_
    -- stop: out
    refine JE_out (.inl rfl) () (results1 Try.results34 (res_tmp rfl)) (by unfold wordV; rw [if_pos (by omega)]) (List.Perm.refl _) (fun _ _ => trivial)
  · have hne : ws.length ≠ 0 := by omega
    have hlt := Nat.mod_lt n (Nat.pos_of_ne_zero hne)
    have hb := hw _ (List.getElem_mem hlt)
    have hm : (n : Int).tmod (ws.length : Int) = ((n % ws.length : Nat) : Int) := by rw [Int.tmod_eq_emod_of_nonneg (by omega)]; rfl
    refine JC_skip ?_
    refine JE_seq ?_
    refine JC_seq ?_
    refine JC_region ?_
    refine JL_pd rfl (det_move rfl) ?_
    refine JL_pd rfl (det_move rfl) ?_
    refine JL_pd rfl (det_move rfl) ?_
    refine JL_pd rfl (det_len rfl Try.runUnderlying50) ?_
    refine JL_pd rfl (det_rem rfl rfl (by omega)) ?_
    refine JL_dt rfl (det_indexAddr rfl rfl (by first | rfl | omega) (by first | assumption | omega | decide) Try.runUnderlying50 Try.sizeOf96) ?_
    refine JL_dt rfl (det_loadE rfl (by first | assumption | omega | decide) Try.isAgg96 rfl rfl) ?_
    refine JL_pd rfl (det_convI rfl Try.runUnderlying96 Try.runUnderlying3 (i64_wrap ⟨by omega, by omega⟩)) ?_
    refine JL_pd rfl (det_assign rfl) ?_
    refine JL_nil ?_
    refine JE_seq ?_
    refine JC_ret ?_
    -- stop: out
    refine JE_out (.inl rfl) () (results1 Try.results34 (res_tmp rfl)) (by unfold wordV; rw [if_neg hne, List.getD_eq_getElem?_getD, List.getElem?_eq_getElem hlt]; rfl) (List.Perm.refl _) (fun _ _ => trivial)
def readyB (h : Hs) (l : List Gr) : Bool := thinB h l && decide (fault h l = 0)
theorem ready_j (x : Hx) (ga : Option Addr) (gc : Nat) (xs : List Gx) : Cv Try.prog 33 [.agg #[I x.h.lanes, .slice x.a x.h.shoes.length x.c], .slice ga xs.length gc] (KAnd (KHx x) (KGs ga gc xs)) (.bool (readyB x.h (gs xs))) := by
  refine Cx_of Try.func33 rfl Try.ntmps33 rfl fun w0 M0 => ?_
  refine JC_seq ?_
  refine JC_region ?_
  refine JL_step rfl rfl rfl (jo_box rfl rfl) fun b2 => ?_
  refine JL_pd rfl (det_assign rfl) ?_
  refine JL_nil ?_
  refine JE_seq ?_
  refine JC_seq ?_
  refine JC_region ?_
  refine JL_dt rfl (det_loadKA rfl Try.isAgg24 Try.sizeOf24 rfl rfl) ?_
  refine JL_pd rfl (det_move rfl) ?_
  refine JL_step rfl rfl rfl (jo_callv rfl rfl Try.call16 rfl (Thin_j x ga gc xs)) fun _ => ?_
  refine JL_pd rfl (det_move rfl) ?_
  -- stop: guard 3
  refine JL_join1 6 4 (.bool (thinB x.h (gs xs) && decide (fault x.h (gs xs) = 0))) (fun hj => ?_) ?_
  · refine JL_split (d0 := 8) rfl (fun q1 => ?_) (fun q1 => ?_)
    · refine JL_guard rfl rfl q1 ?_
      refine JL_dt rfl (det_loadKA rfl Try.isAgg24 Try.sizeOf24 rfl rfl) ?_
      refine JL_guard rfl rfl q1 ?_
      refine JL_pd rfl (det_move rfl) ?_
      refine JL_guard rfl rfl q1 ?_
      refine JL_step rfl rfl rfl (jo_callv rfl rfl Try.call67 rfl (Fault_j x ga gc xs)) fun _ => ?_
      refine JL_guard rfl rfl q1 ?_
      refine JL_pd rfl (det_eql rfl rfl) ?_
      refine JL_pd rfl (det_pick_t rfl q1 rfl) ?_
      refine JL_pd rfl (det_assign rfl) ?_
      exact hj (by kernel_rfl) (stsub_consB rfl (by clear hj; first | rfl | (simp only [q1, Bool.and_true, Bool.true_and, Bool.false_and, Bool.and_false, Bool.or_true, Bool.true_or, Bool.or_false, Bool.false_or, Bool.not_true, Bool.not_false]; done) | (simp [q1]; done) | (simp at q1; done) | (simp [q1] <;> omega) | (exfalso; simp at q1; omega)) stsub_nil)
    · refine JL_skip rfl rfl q1 rfl ?_
      refine JL_skip rfl rfl q1 rfl ?_
      refine JL_skip rfl rfl q1 rfl ?_
      refine JL_skip rfl rfl q1 rfl ?_
      refine JL_pd rfl (det_pick_f rfl q1 rfl) ?_
      refine JL_pd rfl (det_assign rfl) ?_
      exact hj (by kernel_rfl) (stsub_consB rfl (by clear hj; first | rfl | (simp only [q1, Bool.and_true, Bool.true_and, Bool.false_and, Bool.and_false, Bool.or_true, Bool.true_or, Bool.or_false, Bool.false_or, Bool.not_true, Bool.not_false]; done) | (simp [q1]; done) | (simp at q1; done) | (simp [q1] <;> omega) | (exfalso; simp at q1; omega)) stsub_nil)
  refine JL_nil ?_
  refine JE_seq ?_
  refine JC_ret ?_
  -- stop: out
  refine JE_out (.inl rfl) () (results1 Try.results33 (res_tmp rfl)) rfl (List.Perm.refl _) (fun _ _ => trivial)
/-- Plans, with where they lie. -/
structure SL where
  a : Option Addr
  c : Nat
  l : List Int
def encSL (s : SL) : List Value := [.slice s.a s.l.length s.c]
instance : Rec encSL 1 := ⟨fun _ => rfl, by decide⟩
def KSLs (ps : List SL) : World → Prop := fun w => ∀ s ∈ ps, KSl s.a s.l.length s.c encI s.l w
theorem getD_snoc_lt {l : List Int} {v : Int} {m : Nat} (h : m < l.length) : (l ++ [v]).getD m 0 = l.getD m 0 := by
  rw [List.getD_eq_getElem?_getD, List.getD_eq_getElem?_getD, List.getElem?_append_left h]
theorem getD_snoc_eq {l : List Int} {v : Int} {m : Nat} (h : l.length = m) : (l ++ [v]).getD m 0 = v := by
  subst h
  rw [List.getD_eq_getElem?_getD, List.getElem?_append_right (Nat.le_refl _), Nat.sub_self]; rfl
theorem getD_get {l : List Int} {m : Nat} (h : m < l.length) : l.getD m 0 = l[m] := by
  rw [List.getD_eq_getElem?_getD, List.getElem?_eq_getElem h]; rfl
structure GoodP (k : Int) (l : List Gr) (p : List Int) : Prop where
  n : p.length = l.length
  lane : ∀ n ∈ p, -1 ≤ n ∧ n < k
  right : RightZ (l.zip p)
theorem goodP_of {x : Hx} {l : List Gr} {p : List Int} (h : plannedE x.h l p = 0) : GoodP x.h.lanes l p := by
  unfold plannedE at h
  split at h
  · rename_i h1; exact absurd h h1
  · split at h
    · omega
    · split at h
      · omega
      · rename_i h1 h2 h3
        have h2 : isPlan x.h.lanes l p = true := by simpa using h2
        have h3 : rightB l p = true := by simpa using h3
        unfold isPlan at h2
        rw [Bool.and_eq_true, decide_eq_true_eq, List.all_eq_true] at h2
        exact ⟨h2.2, fun n hn => by have := inI_iff.1 (h2.1 n hn); omega, of_decide_eq_true h3⟩
theorem ready_of {h : Hs} {l : List Gr} (q : readyB h l = true) : (h.shoes.length ≤ 14 ∧ l.length ≤ 12 ∧ ∀ g ∈ l, g.feet.length ≤ 10) ∧ fault h l = 0 := by
  unfold readyB at q
  rw [Bool.and_eq_true, decide_eq_true_eq] at q
  exact ⟨thin_lens q.1, q.2⟩
set_option maxRecDepth 100000 in
set_option maxHeartbeats 2000000 in
theorem LendOnce_j (x : Hx) (ga : Option Addr) (gc : Nat) (xs : List Gx) (a : Option Addr) (cap : Nat) (plan : List Int) (wa : Option Addr) (wc : Nat) (ws : List Int) (hw : wordsOk ws) : Cv Try.prog 5 [.agg #[I x.h.lanes, .slice x.a x.h.shoes.length x.c], .slice ga xs.length gc, .slice a plan.length cap, .slice wa ws.length wc] (KAnd (KHx x) (KAnd (KGs ga gc xs) (KAnd (KSl a plan.length cap encI plan) (KSl wa ws.length wc encU ws)))) (.bool true) := by
  refine Cx_of Try.func5 rfl Try.ntmps5 rfl fun w0 M0 => ?_
  refine JC_seq ?_
  refine JC_region ?_
  refine JL_step rfl rfl rfl (jo_box rfl rfl) fun b4 => ?_
  refine JL_pd rfl (det_assign rfl) ?_
  refine JL_nil ?_
  refine JE_seq ?_
  refine JC_seq ?_
  refine JC_seq ?_
  refine JC_region ?_
  refine JL_dt rfl (det_loadKA rfl Try.isAgg24 Try.sizeOf24 rfl rfl) ?_
  refine JL_pd rfl (det_move rfl) ?_
  refine JL_step rfl rfl rfl (jo_callv rfl rfl Try.call33 rfl (ready_j x ga gc xs)) fun _ => ?_
  refine JL_pd rfl (det_not rfl) ?_
  refine JL_pd rfl (det_move rfl) ?_
  -- stop: guard 4
  refine JL_join1 4 25 (.bool (!readyB x.h (gs xs) || decide ((12 : Int) < (plan.length : Int)))) (fun hj => ?_) ?_
  · refine JL_split (d0 := 21) rfl (fun q2 => ?_) (fun q2 => ?_)
    · refine JL_skip rfl rfl q2 rfl ?_
      refine JL_skip rfl rfl q2 rfl ?_
      refine JL_skip rfl rfl q2 rfl ?_
      refine JL_pd rfl (det_pick_t rfl q2 rfl) ?_
      exact hj (by kernel_rfl) (stsub_consB rfl (by clear hj; first | rfl | (simp only [q2, Bool.and_true, Bool.true_and, Bool.false_and, Bool.and_false, Bool.or_true, Bool.true_or, Bool.or_false, Bool.false_or, Bool.not_true, Bool.not_false]; done) | (simp [q2]; done) | (simp at q2; done) | (simp [q2] <;> omega) | (exfalso; simp at q2; omega)) stsub_nil)
    · refine JL_guard rfl rfl q2 ?_
      refine JL_pd rfl (det_move rfl) ?_
      refine JL_guard rfl rfl q2 ?_
      refine JL_pd rfl (det_len rfl Try.runUnderlying22) ?_
      refine JL_guard rfl rfl q2 ?_
      refine JL_pd rfl (det_gtr rfl rfl) ?_
      refine JL_pd rfl (det_pick_f rfl q2 rfl) ?_
      exact hj (by kernel_rfl) (stsub_consB rfl (by clear hj; first | rfl | (simp only [q2, Bool.and_true, Bool.true_and, Bool.false_and, Bool.and_false, Bool.or_true, Bool.true_or, Bool.or_false, Bool.false_or, Bool.not_true, Bool.not_false]; done) | (simp [q2]; done) | (simp at q2; done) | (simp [q2] <;> omega) | (exfalso; simp at q2; omega)) stsub_nil)
  refine JL_nil ?_
  refine JE_seq ?_
  -- stop: cond
  refine JC_cond rfl (fun h1 => ?_) (fun h1 => ?_)
  · refine JC_seq ?_
    refine JC_region ?_
    refine JL_step rfl rfl rfl (jo_callv rfl rfl Try.call17 rfl (awake_j)) fun _ => ?_
    refine JL_pd rfl (det_assign rfl) ?_
    refine JL_nil ?_
    refine JE_seq ?_
    refine JC_ret ?_
    refine JE_seq_ret ?_
    -- stop: out
    refine JE_out (.inl rfl) () (results1 Try.results5 (res_tmp rfl)) rfl (List.Perm.refl _) (fun _ _ => trivial)
  · simp only [Bool.or_eq_false_iff, Bool.not_eq_false', decide_eq_false_iff_not] at h1
    obtain ⟨h1, h2⟩ := h1
    obtain ⟨⟨t1, t2, t3⟩, c1⟩ := ready_of h1
    have hgl : (gs xs).length = xs.length := List.length_map _
    rw [hgl] at t2
    have hpl : plan.length ≤ 12 := by omega
    have hft : ∀ y ∈ xs, y.g.feet.length ≤ 1000 := fun y hy => by have := t3 y.g (List.mem_map.2 ⟨y, hy, rfl⟩); omega
    have V := vld_of c1
    have hl0 := V.hs.l0
    have hl1 := V.hs.l1
    have hgs : ∀ i (hi : i < xs.length), (gs xs)[i]'(by omega) = xs[i].g := fun i hi => by simp [gs]
    have hVg : ∀ i (hi : i < xs.length), VGr xs[i].g := fun i hi => V.gr _ (List.mem_map.2 ⟨_, List.getElem_mem hi, rfl⟩)
    refine JC_skip ?_
    refine JE_seq ?_
    refine JC_seq ?_
    refine JC_region ?_
    refine JL_dt rfl (det_loadKA rfl Try.isAgg24 Try.sizeOf24 rfl rfl) ?_
    refine JL_step rfl rfl rfl (jo_call rfl rfl Try.call19 rfl (lHouse_j x (by omega))) fun x29 => ?_
    refine JL_pd rfl (det_move rfl) ?_
    refine JL_step rfl rfl rfl (jo_call rfl rfl Try.call20 rfl (lGroups_j ga gc xs (by omega) hft)) fun x31 => ?_
    refine JL_step rfl rfl rfl (jo_call rfl rfl Try.call21 rfl (Serve_c x x29 xs x31 c1)) fun x32 => ?_
    refine JL_pd rfl (det_move rfl) ?_
    refine JL_pd rfl (det_extract rfl rfl) ?_
    refine JL_pd rfl (det_extract rfl rfl) ?_
    refine JL_pd rfl (det_assign rfl) ?_
    refine JL_pd rfl (det_assign rfl) ?_
    refine JL_nil ?_
    refine JE_seq ?_
    refine JC_seq ?_
    refine JC_seq ?_
    refine JC_region ?_
    refine JL_pd rfl (det_move rfl) ?_
    refine JL_pd rfl (det_neq rfl rfl) ?_
    refine JL_pd rfl (det_move rfl) ?_
    -- stop: guard 2
    obtain ⟨pb, p, hp⟩ := x32
    have hF := serve_facts V.gr hp
    have hpn : p.length = xs.length := by rw [hF.n, hgl]
    have hgp : GoodP x.h.lanes (gs xs) p := ⟨hF.n, fun n hn => by have := hF.lane n hn; omega, hF.right⟩
    refine JL_is (d0 := 37) false rfl (by rfl) (fun g1 => ?_)
    refine JL_guard rfl rfl g1 ?_
    refine JL_pd rfl (det_move rfl) ?_
    refine JL_guard rfl rfl g1 ?_
    refine JL_pd rfl (det_len rfl Try.runUnderlying22) ?_
    refine JL_guard rfl rfl g1 ?_
    refine JL_pd rfl (det_move rfl) ?_
    refine JL_guard rfl rfl g1 ?_
    refine JL_pd rfl (det_len rfl Try.runUnderlying25) ?_
    refine JL_guard rfl rfl g1 ?_
    refine JL_pd rfl (det_neq rfl rfl) ?_
    refine JL_pd rfl (det_pick_f rfl g1 rfl) ?_
    refine JL_nil ?_
    refine JE_seq ?_
    -- stop: cond
    refine JC_cond rfl (fun k1 => ?_) (fun k1 => ?_)
    · exact absurd k1 (by simp; omega)
    refine JC_skip ?_
    refine JE_seq ?_
    refine JC_seq ?_
    refine JC_region ?_
    refine JL_pd rfl (det_move rfl) ?_
    refine JL_step rfl rfl rfl (jo_buildOwn (z := 1) rfl (bsl_51_1_0 _ _ _) rfl (by decide)) fun b45 => ?_
    refine JL_pd rfl (det_assign rfl) ?_
    refine JL_nil ?_
    refine JE_seq ?_
    refine JC_seq ?_
    refine JC_seq ?_
    refine JC_region ?_
    refine JL_dt rfl (det_loadKA rfl Try.isAgg24 Try.sizeOf24 rfl rfl) ?_
    refine JL_step rfl rfl rfl (jo_call rfl rfl Try.call19 rfl (lHouse_j x (by omega))) fun x47 => ?_
    refine JL_pd rfl (det_move rfl) ?_
    refine JL_step rfl rfl rfl (jo_call rfl rfl Try.call20 rfl (lGroups_j ga gc xs (by omega) hft)) fun x49 => ?_
    refine JL_pd rfl (det_move rfl) ?_
    refine JL_step rfl rfl rfl (jo_call rfl rfl Try.call23 rfl (lList_j plan a cap (by omega))) fun x51 => ?_
    refine JL_step rfl rfl rfl (jo_callv rfl rfl Try.call22 rfl (ProvePlan_c x x47 xs x49 plan x51.1 x51.2 0)) fun _ => ?_
    refine JL_nil ?_
    refine JE_seq ?_
    -- stop: cond
    refine JC_keep b4 noFp ?_
    generalize hsp : (⟨some ⟨pb, 0, none⟩, p.length, p⟩ : SL) = sp
    have hspl : encSL sp = [.slice (some ⟨pb, 0, none⟩) p.length p.length] := by rw [← hsp]; rfl
    have hspg : GoodP x.h.lanes (gs xs) sp.l := by rw [← hsp]; exact hgp
    have hspk : ∀ w, KSl (some ⟨pb, 0, none⟩) p.length p.length encI p w → KSl sp.a sp.l.length sp.c encI sp.l w := fun w h => by rw [← hsp]; exact h
    refine JC_cutK (γ := Value × List SL) (fun q => q.2.length ≤ 2 ∧ ∀ s ∈ q.2, GoodP x.h.lanes (gs xs) s.l) (fun q => [(11, q.1)]) (fun q => [ow q.1 22 1 q.2.length (q.2.flatMap encSL)]) (fun q => KSLs q.2) [] (fun K hK => ?_) (fun q hq => ?_)
    · skip
      -- stop: cond
      refine JC_cond rfl (fun k2 => ?_) (fun k2 => ?_)
      · rw [Bool.and_eq_true, decide_eq_true_eq] at k2
        have hg2 := goodP_of k2.1
        refine JC_region ?_
        refine JL_pd rfl (det_move rfl) ?_
        refine JL_pd rfl (det_move rfl) ?_
        refine JL_step rfl rfl rfl (jo_buildSlice rfl (bsl_51_1_0 _ _ _)) fun b55 => ?_
        refine JL_step rfl rfl rfl (jo_append el_51 rfl rfl rfl rfl (by omega)) fun b56 => ?_
        refine JL_pd rfl (det_assign rfl) ?_
        refine JL_nil ?_
        -- stop: end
        refine JE_weak (R' := KAnd (KSLs [sp, ⟨a, cap, plan⟩]) _) stsub_refl hsub_refl (fun w h => ⟨fun s hs => ?_, h⟩) ?_
        · rcases List.mem_cons.1 hs with rfl | hs
          · exact hspk w (Knows.know w h)
          · rw [List.mem_singleton.1 hs]; exact Knows.know (F := KSl a plan.length cap encI plan) w h
        exact JE_cutK hK (.slice (some ⟨b56.1, 0, none⟩) (1 + 1) b56.2, [sp, ⟨a, cap, plan⟩]) ⟨by simp, fun s hs => by rcases List.mem_cons.1 hs with rfl | hs; exact hspg; rw [List.mem_singleton.1 hs]; exact hg2⟩ (stsub_cons rfl stsub_nil) (ht_ow rfl (by show _ = encSL sp ++ (encSL _ ++ []); rw [hspl]; rfl) ht_nil)
      · refine JC_skip ?_
        -- stop: end
        refine JE_weak (R' := KAnd (KSLs [sp]) _) stsub_refl hsub_refl (fun w h => ⟨fun s hs => ?_, h⟩) ?_
        · rw [List.mem_singleton.1 hs]; exact hspk w (Knows.know w h)
        exact JE_cutK hK (.slice (some ⟨b45, 0, none⟩) 1 1, [sp]) ⟨by simp, fun s hs => by rw [List.mem_singleton.1 hs]; exact hspg⟩ (stsub_cons rfl stsub_nil) (ht_ow rfl (by simp [hspl]) ht_nil)
    obtain ⟨v, ps⟩ := q
    obtain ⟨hps2, hps⟩ := hq
    dsimp only [List.cons_append, List.nil_append] at hps hps2 ⊢
    refine JC_slice (enc := encSL) (v := v) ps noFp rfl rfl ?_
    rintro va vc rfl
    refine JC_seq ?_
    refine JC_region ?_
    refine JL_pd rfl (det_assign rfl) ?_
    refine JL_nil ?_
    refine JE_seq ?_
    refine JC_seq ?_
    refine JC_seq ?_
    refine JC_region ?_
    refine JL_pd rfl (det_assign rfl) ?_
    refine JL_nil ?_
    refine JE_seq ?_
    refine JC_block ?_
    -- stop: loop
    refine JC_nil 3 1 ?_
    refine JC_loopF (γ := Nat × Value × List Int) (fun q => q.1 ≤ xs.length ∧ q.2.2.length = q.1 ∧ ∀ m (hm : m < xs.length), m < q.1 → xs[m].g.lo ≤ q.2.2.getD m 0 ∧ q.2.2.getD m 0 ≤ xs[m].g.hi) (fun q => [(13, I q.1), (12, q.2.1)]) (fun q => [ow q.2.1 3 1 q.2.2.length (q.2.2.flatMap encI)]) (fun q => xs.length - q.1) (0, .slice none 0 0, []) ⟨Nat.zero_le _, rfl, fun m _ h => by omega⟩ (stsub_consI rfl rfl (stsub_cons rfl stsub_nil)) (ht_ow rfl rfl ht_nil) ?_
    rintro ⟨i, v, ls⟩ ⟨hi, hll, hls⟩ K hK
    dsimp only [List.cons_append, List.nil_append] at hi hll hls ⊢
    refine JC_seq ?_
    refine JC_seq ?_
    refine JC_region ?_
    refine JL_pd rfl (det_move rfl) ?_
    refine JL_pd rfl (det_move rfl) ?_
    refine JL_pd rfl (det_len rfl Try.runUnderlying25) ?_
    refine JL_pd rfl (det_lss rfl rfl) ?_
    refine JL_nil ?_
    refine JE_seq ?_
    -- stop: cond
    refine JC_if rfl (fun h3 => ?_) (fun h3 => ?_)
    · have hi2 : i < xs.length := by omega
      have hv := hVg i hi2
      have v1 := hv.f0
      have v2 := hv.fl
      have v3 := hv.lh
      have v4 := hv.h1
      have hwb := word_bd hw i
      have hr0 : 0 ≤ (wordV ws i).tmod (xs[i].g.hi - xs[i].g.lo + 1) := Int.tmod_nonneg _ hwb.1
      have hr1 : (wordV ws i).tmod (xs[i].g.hi - xs[i].g.lo + 1) < xs[i].g.hi - xs[i].g.lo + 1 := Int.tmod_lt_of_pos _ (by omega)
      refine JC_skip ?_
      refine JE_seq ?_
      refine JC_seq ?_
      refine JC_block ?_
      refine JC_draw [27] (by kernel_rfl) ?_
      refine JA_pd (i := 0) rfl (by kernel_rfl) rfl rfl (det_move rfl) ?_
      refine JA_pd (i := 1) rfl (by kernel_rfl) rfl rfl (det_move rfl) ?_
      refine JA_pd (i := 2) rfl (by kernel_rfl) rfl rfl (det_move rfl) ?_
      refine JA_dt (i := 3) rfl (by kernel_rfl) (by kernel_rfl) rfl rfl (det_indexAddr rfl rfl (by first | rfl | omega) (by first | assumption | omega | decide) Try.runUnderlying25 Try.sizeOf55) ?_
      refine JA_pd (i := 4) rfl (by kernel_rfl) rfl rfl (det_fieldAddrE rfl fo_55_1) ?_
      refine JA_pd (i := 5) rfl (by kernel_rfl) rfl rfl (det_fieldAddrEk (k2 := 1) rfl fo_53_0 rfl) ?_
      refine JA_dt (i := 6) rfl (by kernel_rfl) (by kernel_rfl) rfl rfl (det_loadEk rfl (by first | assumption | omega | decide) Try.isAgg3 rfl rfl) ?_
      refine JA_pd (i := 7) rfl (by kernel_rfl) rfl rfl (det_move rfl) ?_
      refine JA_pd (i := 8) rfl (by kernel_rfl) rfl rfl (det_move rfl) ?_
      refine JA_pd (i := 10) rfl (by kernel_rfl) rfl rfl (det_move rfl) ?_
      refine JA_pd (i := 11) rfl (by kernel_rfl) rfl rfl (det_move rfl) ?_
      refine JA_dt (i := 12) rfl (by kernel_rfl) (by kernel_rfl) rfl rfl (det_indexAddr rfl rfl (by first | rfl | omega) (by first | assumption | omega | decide) Try.runUnderlying25 Try.sizeOf55) ?_
      refine JA_pd (i := 13) rfl (by kernel_rfl) rfl rfl (det_fieldAddrE rfl fo_55_1) ?_
      refine JA_pd (i := 14) rfl (by kernel_rfl) rfl rfl (det_fieldAddrEk (k2 := 2) rfl fo_53_1 rfl) ?_
      refine JA_dt (i := 15) rfl (by kernel_rfl) (by kernel_rfl) rfl rfl (det_loadEk rfl (by first | assumption | omega | decide) Try.isAgg3 rfl rfl) ?_
      refine JA_pd (i := 16) rfl (by kernel_rfl) rfl rfl (det_move rfl) ?_
      refine JA_pd (i := 17) rfl (by kernel_rfl) rfl rfl (det_move rfl) ?_
      refine JA_dt (i := 18) rfl (by kernel_rfl) (by kernel_rfl) rfl rfl (det_indexAddr rfl rfl (by first | rfl | omega) (by first | assumption | omega | decide) Try.runUnderlying25 Try.sizeOf55) ?_
      refine JA_pd (i := 19) rfl (by kernel_rfl) rfl rfl (det_fieldAddrE rfl fo_55_1) ?_
      refine JA_pd (i := 20) rfl (by kernel_rfl) rfl rfl (det_fieldAddrEk (k2 := 1) rfl fo_53_0 rfl) ?_
      refine JA_dt (i := 21) rfl (by kernel_rfl) (by kernel_rfl) rfl rfl (det_loadEk rfl (by first | assumption | omega | decide) Try.isAgg3 rfl rfl) ?_
      refine JA_pd (i := 22) rfl (by kernel_rfl) rfl rfl (det_sub rfl rfl ⟨by omega, by omega⟩) ?_
      refine JA_pd (i := 23) rfl (by kernel_rfl) rfl rfl (det_add rfl rfl ⟨by omega, by omega⟩) ?_
      refine JA_one (i := 9) (by kernel_rfl) rfl rfl (jo_callv rfl rfl Try.call34 rfl (word_j ws wa wc i hw)) (fun _ => ⟨hsub_refl, fun _ h => h⟩) fun _ => ?_
      refine JA_pd (i := 24) rfl (by kernel_rfl) rfl rfl (det_rem rfl rfl (by omega)) ?_
      refine JA_pd (i := 25) rfl (by kernel_rfl) rfl rfl (det_add rfl rfl ⟨by omega, by omega⟩) ?_
      refine JA_one (i := 26) (by kernel_rfl) rfl rfl (jo_buildSlice rfl (bsl_22_1_0 _)) (fun _ => ⟨hsub_drop 1 rfl, fun _ h => h⟩) fun b89 => ?_
      refine JA_tail (i := 27) (by kernel_rfl) rfl rfl rfl rfl (jo_append el_22 rfl rfl rfl rfl (by omega)) fun b90 => ?_
      refine JT_pd (i := 28) rfl (by kernel_rfl) rfl rfl (det_assign rfl) ?_
      refine JT_done (by kernel_rfl) ?_
      refine JE_block ?_
      refine JE_seq ?_
      refine JC_region ?_
      refine JL_pd rfl (det_move rfl) ?_
      refine JL_pd rfl (det_add rfl rfl ⟨by omega, by omega⟩) ?_
      refine JL_pd rfl (det_assign rfl) ?_
      refine JL_nil ?_
      -- stop: end
      refine JE_roundF hK (i + 1, .slice (some ⟨b90.1, 0, none⟩) (ls.length + 1) b90.2, ls ++ [xs[i].g.lo + (wordV ws i).tmod (xs[i].g.hi - xs[i].g.lo + 1)]) ⟨by simp only; omega, by simp [hll], fun m hm hmi => ?_⟩ (by simp only; omega) (stsub_consI rfl (by simp only; omega) (stsub_cons rfl stsub_nil)) (ht_ow (by simp) (by simp [encI]) ht_nil)
      simp only at hmi ⊢
      by_cases e : m = i
      · subst e
        rw [getD_snoc_eq hll]
        omega
      · rw [getD_snoc_lt (by omega)]; exact hls m hm (by omega)
    · obtain rfl : i = xs.length := by omega
      refine JC_slice (enc := encI) (v := v) ls noFp rfl rfl ?_
      rintro la lc rfl
      refine JC_exit ?_
      refine JE_seq_exit ?_
      refine JE_then_exit ?_
      refine JE_block_here ?_
      refine JE_seq ?_
      refine JC_seq ?_
      refine JC_seq ?_
      refine JC_region ?_
      refine JL_pd rfl (det_assign rfl) ?_
      refine JL_nil ?_
      refine JE_seq ?_
      refine JC_block ?_
      -- stop: loop
      refine JC_loopF (γ := Nat) (fun m => m ≤ ps.length) (fun m => [(14, I m)]) (fun _ => []) (fun m => ps.length - m) 0 (Nat.zero_le _) (stsub_consI rfl rfl stsub_nil) ht_nil ?_
      intro m hm K1 hK1
      dsimp only [List.cons_append, List.nil_append]
      refine JC_seq ?_
      refine JC_seq ?_
      refine JC_region ?_
      refine JL_pd rfl (det_move rfl) ?_
      refine JL_pd rfl (det_move rfl) ?_
      refine JL_pd rfl (det_len rfl Try.runUnderlying51) ?_
      refine JL_pd rfl (det_lss rfl rfl) ?_
      refine JL_nil ?_
      refine JE_seq ?_
      -- stop: cond
      refine JC_if rfl (fun h4 => ?_) (fun h4 => ?_)
      · have hm2 : m < ps.length := by omega
        have hG := hps _ (List.getElem_mem hm2)
        have hGn : ps[m].l.length = xs.length := by rw [hG.n, hgl]
        refine JC_know (R' := KAnd (KSl ps[m].a ps[m].l.length ps[m].c encI ps[m].l) _) (fun w h => ⟨(Knows.know (F := KSLs ps) w h) _ (List.getElem_mem hm2), h⟩) ?_
        refine JC_skip ?_
        refine JE_seq ?_
        refine JC_seq ?_
        refine JC_block ?_
        refine JC_seq ?_
        refine JC_seq ?_
        refine JC_region ?_
        refine JL_pd rfl (det_move rfl) ?_
        refine JL_pd rfl (det_move rfl) ?_
        refine JL_dt rfl (det_indexAddr rfl rfl (by first | rfl | omega) (by first | assumption | omega | decide) Try.runUnderlying51 Try.sizeOf22) ?_
        refine JL_dt rfl (det_loadE rfl (by first | assumption | omega | decide) Try.isAgg22 rfl rfl) ?_
        refine JL_pd rfl (det_len rfl Try.runUnderlying22) ?_
        refine JL_pd rfl (det_move rfl) ?_
        refine JL_pd rfl (det_len rfl Try.runUnderlying25) ?_
        refine JL_pd rfl (det_neq rfl rfl) ?_
        refine JL_nil ?_
        refine JE_seq ?_
        -- stop: cond
        refine JC_ifn rfl (fun k3 => ?_) (fun k3 => ?_)
        · exact absurd (by omega) k3
        refine JC_skip ?_
        refine JE_seq ?_
        refine JC_seq ?_
        refine JC_region ?_
        refine JL_pd rfl (det_assign rfl) ?_
        refine JL_nil ?_
        refine JE_seq ?_
        refine JC_block ?_
        -- stop: loop
        refine JC_loopF (γ := Nat) (fun i => i ≤ xs.length) (fun i => [(15, I i)]) (fun _ => []) (fun i => xs.length - i) 0 (Nat.zero_le _) (stsub_consI rfl rfl stsub_nil) ht_nil ?_
        intro i hi K2 hK2
        dsimp only [List.cons_append, List.nil_append]
        refine JC_seq ?_
        refine JC_seq ?_
        refine JC_region ?_
        refine JL_pd rfl (det_move rfl) ?_
        refine JL_pd rfl (det_move rfl) ?_
        refine JL_pd rfl (det_len rfl Try.runUnderlying25) ?_
        refine JL_pd rfl (det_lss rfl rfl) ?_
        refine JL_nil ?_
        refine JE_seq ?_
        -- stop: cond
        refine JC_if rfl (fun h5 => ?_) (fun h5 => ?_)
        · have hi2 : i < xs.length := by omega
          have hil : i < ls.length := by omega
          have hip : i < ps[m].l.length := by omega
          have hlane := hG.lane _ (List.getElem_mem hip)
          refine JC_skip ?_
          refine JE_seq ?_
          refine JC_seq ?_
          refine JC_block ?_
          refine JC_seq ?_
          refine JC_seq ?_
          refine JC_draw [] (by kernel_rfl) ?_
          refine JA_pd (i := 0) rfl (by kernel_rfl) rfl rfl (det_move rfl) ?_
          refine JA_pd (i := 1) rfl (by kernel_rfl) rfl rfl (det_move rfl) ?_
          refine JA_dt (i := 2) rfl (by kernel_rfl) (by kernel_rfl) rfl rfl (det_indexAddr rfl rfl rfl hm2 Try.runUnderlying51 Try.sizeOf22) ?_
          refine JA_dt (i := 3) rfl (by kernel_rfl) (by kernel_rfl) rfl rfl (det_loadE rfl hm2 Try.isAgg22 rfl rfl) ?_
          refine JA_pd (i := 4) rfl (by kernel_rfl) rfl rfl (det_move rfl) ?_
          refine JA_dt (i := 5) rfl (by kernel_rfl) (by kernel_rfl) rfl rfl (det_indexAddr rfl rfl (by first | rfl | omega) (by first | assumption | omega | decide) Try.runUnderlying22 Try.sizeOf3) ?_
          refine JA_dt (i := 6) rfl (by kernel_rfl) (by kernel_rfl) rfl rfl (det_loadE rfl (by first | assumption | omega | decide) Try.isAgg3 rfl rfl) ?_
          refine JA_pd (i := 7) rfl (by kernel_rfl) rfl rfl (det_lss rfl rfl) ?_
          refine JA_pd (i := 8) rfl (by kernel_rfl) rfl rfl (det_move rfl) ?_
          -- stop: guard 8
          refine JA_is (d0 := 119) false rfl (by exact decide_eq_false (by omega)) (fun g1 => ?_)
          refine JA_gpd (i := 9) rfl (by kernel_rfl) rfl rfl rfl rfl g1 (det_move rfl) ?_
          refine JA_gpd (i := 10) rfl (by kernel_rfl) rfl rfl rfl rfl g1 (det_move rfl) ?_
          refine JA_gdt (i := 11) rfl (by kernel_rfl) (by kernel_rfl) rfl rfl rfl rfl g1 (det_indexAddr rfl rfl rfl hm2 Try.runUnderlying51 Try.sizeOf22) ?_
          refine JA_gdt (i := 12) rfl (by kernel_rfl) (by kernel_rfl) rfl rfl rfl rfl g1 (det_loadE rfl hm2 Try.isAgg22 rfl rfl) ?_
          refine JA_gpd (i := 13) rfl (by kernel_rfl) rfl rfl rfl rfl g1 (det_move rfl) ?_
          refine JA_gdt (i := 14) rfl (by kernel_rfl) (by kernel_rfl) rfl rfl rfl rfl g1 (det_indexAddr rfl rfl (by first | rfl | omega) (by first | assumption | omega | decide) Try.runUnderlying22 Try.sizeOf3) ?_
          refine JA_gdt (i := 15) rfl (by kernel_rfl) (by kernel_rfl) rfl rfl rfl rfl g1 (det_loadE rfl (by first | assumption | omega | decide) Try.isAgg3 rfl rfl) ?_
          refine JA_gpd (i := 16) rfl (by kernel_rfl) rfl rfl rfl rfl g1 (det_fieldAddr rfl fo_24_0) ?_
          refine JA_gdt (i := 17) rfl (by kernel_rfl) (by kernel_rfl) rfl rfl rfl rfl g1 (det_loadK rfl Try.isAgg3 rfl) ?_
          refine JA_gpd (i := 18) rfl (by kernel_rfl) rfl rfl rfl rfl g1 (det_geq rfl rfl) ?_
          refine JA_pd (i := 19) rfl (by kernel_rfl) rfl rfl (det_pick_f rfl g1 rfl) ?_
          refine JA_done (by kernel_rfl) ?_
          refine JE_seq ?_
          -- stop: cond
          refine JC_cond rfl (fun k4 => ?_) (fun k4 => ?_)
          · exact absurd k4 (by simp; omega)
          refine JC_skip ?_
          refine JE_seq ?_
          refine JC_seq ?_
          refine JC_region ?_
          refine JL_pd rfl (det_assign rfl) ?_
          refine JL_nil ?_
          refine JE_seq ?_
          refine JC_block ?_
          -- stop: loop
          refine JC_loopF (γ := Nat) (fun k => k ≤ i) (fun k => [(16, I k)]) (fun _ => []) (fun k => i - k) 0 (Nat.zero_le _) (stsub_consI rfl rfl stsub_nil) ht_nil ?_
          intro k hk K3 hK3
          dsimp only [List.cons_append, List.nil_append]
          refine JC_seq ?_
          refine JC_seq ?_
          refine JC_region ?_
          refine JL_pd rfl (det_move rfl) ?_
          refine JL_pd rfl (det_move rfl) ?_
          refine JL_pd rfl (det_lss rfl rfl) ?_
          refine JL_nil ?_
          refine JE_seq ?_
          -- stop: cond
          refine JC_if rfl (fun h6 => ?_) (fun h6 => ?_)
          · have hki : k < i := by omega
            have hk2 : k < xs.length := by omega
            have hkl : k < ls.length := by omega
            have hkp : k < ps[m].l.length := by omega
            have hz : ¬ (0 ≤ ps[m].l[i] ∧ ps[m].l[i] = ps[m].l[k] ∧ xs[i].g.fr ≤ ls[k] ∧ xs[k].g.fr ≤ ls[i]) := by
              rintro ⟨q1, q2, q3, q4⟩
              have hlk := (hls k hk2 hk2).2
              have hli := (hls i hi2 hi2).2
              rw [getD_get hkl] at hlk
              rw [getD_get hil] at hli
              have hzl : ((gs xs).zip ps[m].l).length = xs.length := by rw [List.length_zip, hgl]; omega
              have := List.pairwise_iff_getElem.1 hG.right k i (by omega) (by omega) hki
              rw [List.getElem_zip, List.getElem_zip, hgs k hk2, hgs i hi2] at this
              exact this ⟨by simp only; omega, q2.symm, by unfold ovl; simp only; omega⟩
            by_cases c2 : 0 ≤ ps[m].l[i]
            · by_cases c3 : ps[m].l[i] = ps[m].l[k]
              · by_cases c4 : xs[i].g.fr ≤ ls[k]
                · refine JC_skip ?_
                  refine JE_seq ?_
                  refine JC_seq ?_
                  refine JC_block ?_
                  refine JC_seq ?_
                  refine JC_draw [] (by kernel_rfl) ?_
                  refine JA_pd (i := 0) rfl (by kernel_rfl) rfl rfl (det_move rfl) ?_
                  refine JA_pd (i := 1) rfl (by kernel_rfl) rfl rfl (det_move rfl) ?_
                  refine JA_dt (i := 2) rfl (by kernel_rfl) (by kernel_rfl) rfl rfl (det_indexAddr rfl rfl rfl hm2 Try.runUnderlying51 Try.sizeOf22) ?_
                  refine JA_dt (i := 3) rfl (by kernel_rfl) (by kernel_rfl) rfl rfl (det_loadE rfl hm2 Try.isAgg22 rfl rfl) ?_
                  refine JA_pd (i := 4) rfl (by kernel_rfl) rfl rfl (det_move rfl) ?_
                  refine JA_dt (i := 5) rfl (by kernel_rfl) (by kernel_rfl) rfl rfl (det_indexAddr rfl rfl (by first | rfl | omega) (by first | assumption | omega | decide) Try.runUnderlying22 Try.sizeOf3) ?_
                  refine JA_dt (i := 6) rfl (by kernel_rfl) (by kernel_rfl) rfl rfl (det_loadE rfl (by first | assumption | omega | decide) Try.isAgg3 rfl rfl) ?_
                  refine JA_pd (i := 7) rfl (by kernel_rfl) rfl rfl (det_geq rfl rfl) ?_
                  refine JA_pd (i := 8) rfl (by kernel_rfl) rfl rfl (det_move rfl) ?_
                  -- stop: guard 8
                  refine JA_is (d0 := 144) true rfl (by exact decide_eq_true c2) (fun g1 => ?_)
                  refine JA_gpd (i := 9) rfl (by kernel_rfl) rfl rfl rfl rfl g1 (det_move rfl) ?_
                  refine JA_gpd (i := 10) rfl (by kernel_rfl) rfl rfl rfl rfl g1 (det_move rfl) ?_
                  refine JA_gdt (i := 11) rfl (by kernel_rfl) (by kernel_rfl) rfl rfl rfl rfl g1 (det_indexAddr rfl rfl rfl hm2 Try.runUnderlying51 Try.sizeOf22) ?_
                  refine JA_gdt (i := 12) rfl (by kernel_rfl) (by kernel_rfl) rfl rfl rfl rfl g1 (det_loadE rfl hm2 Try.isAgg22 rfl rfl) ?_
                  refine JA_gpd (i := 13) rfl (by kernel_rfl) rfl rfl rfl rfl g1 (det_move rfl) ?_
                  refine JA_gdt (i := 14) rfl (by kernel_rfl) (by kernel_rfl) rfl rfl rfl rfl g1 (det_indexAddr rfl rfl (by first | rfl | omega) (by first | assumption | omega | decide) Try.runUnderlying22 Try.sizeOf3) ?_
                  refine JA_gdt (i := 15) rfl (by kernel_rfl) (by kernel_rfl) rfl rfl rfl rfl g1 (det_loadE rfl (by first | assumption | omega | decide) Try.isAgg3 rfl rfl) ?_
                  refine JA_gpd (i := 16) rfl (by kernel_rfl) rfl rfl rfl rfl g1 (det_move rfl) ?_
                  refine JA_gpd (i := 17) rfl (by kernel_rfl) rfl rfl rfl rfl g1 (det_move rfl) ?_
                  refine JA_gdt (i := 18) rfl (by kernel_rfl) (by kernel_rfl) rfl rfl rfl rfl g1 (det_indexAddr rfl rfl rfl hm2 Try.runUnderlying51 Try.sizeOf22) ?_
                  refine JA_gdt (i := 19) rfl (by kernel_rfl) (by kernel_rfl) rfl rfl rfl rfl g1 (det_loadE rfl hm2 Try.isAgg22 rfl rfl) ?_
                  refine JA_gpd (i := 20) rfl (by kernel_rfl) rfl rfl rfl rfl g1 (det_move rfl) ?_
                  refine JA_gdt (i := 21) rfl (by kernel_rfl) (by kernel_rfl) rfl rfl rfl rfl g1 (det_indexAddr rfl rfl (by first | rfl | omega) (by first | assumption | omega | decide) Try.runUnderlying22 Try.sizeOf3) ?_
                  refine JA_gdt (i := 22) rfl (by kernel_rfl) (by kernel_rfl) rfl rfl rfl rfl g1 (det_loadE rfl (by first | assumption | omega | decide) Try.isAgg3 rfl rfl) ?_
                  refine JA_gpd (i := 23) rfl (by kernel_rfl) rfl rfl rfl rfl g1 (det_eql rfl rfl) ?_
                  refine JA_pd (i := 24) rfl (by kernel_rfl) rfl rfl (det_pick_t rfl g1 rfl) ?_
                  refine JA_pd (i := 25) rfl (by kernel_rfl) rfl rfl (det_move rfl) ?_
                  -- stop: guard 25
                  refine JA_is (d0 := 161) true rfl (by exact decide_eq_true c3) (fun g2 => ?_)
                  refine JA_gpd (i := 26) rfl (by kernel_rfl) rfl rfl rfl rfl g2 (det_move rfl) ?_
                  refine JA_gpd (i := 27) rfl (by kernel_rfl) rfl rfl rfl rfl g2 (det_move rfl) ?_
                  refine JA_gdt (i := 28) rfl (by kernel_rfl) (by kernel_rfl) rfl rfl rfl rfl g2 (det_indexAddr rfl rfl (by first | rfl | omega) (by first | assumption | omega | decide) Try.runUnderlying25 Try.sizeOf55) ?_
                  refine JA_gpd (i := 29) rfl (by kernel_rfl) rfl rfl rfl rfl g2 (det_fieldAddrE rfl fo_55_0) ?_
                  refine JA_gdt (i := 30) rfl (by kernel_rfl) (by kernel_rfl) rfl rfl rfl rfl g2 (det_loadEk rfl (by first | assumption | omega | decide) Try.isAgg3 rfl rfl) ?_
                  refine JA_gpd (i := 31) rfl (by kernel_rfl) rfl rfl rfl rfl g2 (det_move rfl) ?_
                  refine JA_gpd (i := 32) rfl (by kernel_rfl) rfl rfl rfl rfl g2 (det_move rfl) ?_
                  refine JA_gdt (i := 33) rfl (by kernel_rfl) (by kernel_rfl) rfl rfl rfl rfl g2 (det_indexAddr rfl rfl (by first | rfl | omega) (by first | assumption | omega | decide) Try.runUnderlying22 Try.sizeOf3) ?_
                  refine JA_gdt (i := 34) rfl (by kernel_rfl) (by kernel_rfl) rfl rfl rfl rfl g2 (det_loadE rfl (by first | assumption | omega | decide) Try.isAgg3 rfl rfl) ?_
                  refine JA_gpd (i := 35) rfl (by kernel_rfl) rfl rfl rfl rfl g2 (det_leq rfl rfl) ?_
                  refine JA_pd (i := 36) rfl (by kernel_rfl) rfl rfl (det_pick_t rfl g2 rfl) ?_
                  refine JA_pd (i := 37) rfl (by kernel_rfl) rfl rfl (det_move rfl) ?_
                  -- stop: guard 37
                  refine JA_is (d0 := 173) true rfl (by exact decide_eq_true c4) (fun g3 => ?_)
                  refine JA_gpd (i := 38) rfl (by kernel_rfl) rfl rfl rfl rfl g3 (det_move rfl) ?_
                  refine JA_gpd (i := 39) rfl (by kernel_rfl) rfl rfl rfl rfl g3 (det_move rfl) ?_
                  refine JA_gdt (i := 40) rfl (by kernel_rfl) (by kernel_rfl) rfl rfl rfl rfl g3 (det_indexAddr rfl rfl (by first | rfl | omega) (by first | assumption | omega | decide) Try.runUnderlying25 Try.sizeOf55) ?_
                  refine JA_gpd (i := 41) rfl (by kernel_rfl) rfl rfl rfl rfl g3 (det_fieldAddrE rfl fo_55_0) ?_
                  refine JA_gdt (i := 42) rfl (by kernel_rfl) (by kernel_rfl) rfl rfl rfl rfl g3 (det_loadEk rfl (by first | assumption | omega | decide) Try.isAgg3 rfl rfl) ?_
                  refine JA_gpd (i := 43) rfl (by kernel_rfl) rfl rfl rfl rfl g3 (det_move rfl) ?_
                  refine JA_gpd (i := 44) rfl (by kernel_rfl) rfl rfl rfl rfl g3 (det_move rfl) ?_
                  refine JA_gdt (i := 45) rfl (by kernel_rfl) (by kernel_rfl) rfl rfl rfl rfl g3 (det_indexAddr rfl rfl (by first | rfl | omega) (by first | assumption | omega | decide) Try.runUnderlying22 Try.sizeOf3) ?_
                  refine JA_gdt (i := 46) rfl (by kernel_rfl) (by kernel_rfl) rfl rfl rfl rfl g3 (det_loadE rfl (by first | assumption | omega | decide) Try.isAgg3 rfl rfl) ?_
                  refine JA_gpd (i := 47) rfl (by kernel_rfl) rfl rfl rfl rfl g3 (det_leq rfl rfl) ?_
                  refine JA_pd (i := 48) rfl (by kernel_rfl) rfl rfl (det_pick_t rfl g3 rfl) ?_
                  refine JA_done (by kernel_rfl) ?_
                  refine JE_seq ?_
                  -- stop: cond
                  refine JC_cond rfl (fun k5 => ?_) (fun k5 => ?_)
                  · exact absurd ⟨c2, c3, c4, of_decide_eq_true k5⟩ hz
                  refine JC_skip ?_
                  refine JE_block ?_
                  refine JE_seq ?_
                  refine JC_region ?_
                  refine JL_pd rfl (det_move rfl) ?_
                  refine JL_pd rfl (det_add rfl rfl ⟨by omega, by omega⟩) ?_
                  refine JL_pd rfl (det_assign rfl) ?_
                  refine JL_nil ?_
                  -- stop: end
                  refine JE_roundF hK3 (k + 1) (by omega) (by omega) (stsub_consI rfl (by omega) stsub_nil) ht_nil
                · refine JC_skip ?_
                  refine JE_seq ?_
                  refine JC_seq ?_
                  refine JC_block ?_
                  refine JC_seq ?_
                  refine JC_draw [] (by kernel_rfl) ?_
                  refine JA_pd (i := 0) rfl (by kernel_rfl) rfl rfl (det_move rfl) ?_
                  refine JA_pd (i := 1) rfl (by kernel_rfl) rfl rfl (det_move rfl) ?_
                  refine JA_dt (i := 2) rfl (by kernel_rfl) (by kernel_rfl) rfl rfl (det_indexAddr rfl rfl rfl hm2 Try.runUnderlying51 Try.sizeOf22) ?_
                  refine JA_dt (i := 3) rfl (by kernel_rfl) (by kernel_rfl) rfl rfl (det_loadE rfl hm2 Try.isAgg22 rfl rfl) ?_
                  refine JA_pd (i := 4) rfl (by kernel_rfl) rfl rfl (det_move rfl) ?_
                  refine JA_dt (i := 5) rfl (by kernel_rfl) (by kernel_rfl) rfl rfl (det_indexAddr rfl rfl (by first | rfl | omega) (by first | assumption | omega | decide) Try.runUnderlying22 Try.sizeOf3) ?_
                  refine JA_dt (i := 6) rfl (by kernel_rfl) (by kernel_rfl) rfl rfl (det_loadE rfl (by first | assumption | omega | decide) Try.isAgg3 rfl rfl) ?_
                  refine JA_pd (i := 7) rfl (by kernel_rfl) rfl rfl (det_geq rfl rfl) ?_
                  refine JA_pd (i := 8) rfl (by kernel_rfl) rfl rfl (det_move rfl) ?_
                  -- stop: guard 8
                  refine JA_is (d0 := 144) true rfl (by exact decide_eq_true c2) (fun g1 => ?_)
                  refine JA_gpd (i := 9) rfl (by kernel_rfl) rfl rfl rfl rfl g1 (det_move rfl) ?_
                  refine JA_gpd (i := 10) rfl (by kernel_rfl) rfl rfl rfl rfl g1 (det_move rfl) ?_
                  refine JA_gdt (i := 11) rfl (by kernel_rfl) (by kernel_rfl) rfl rfl rfl rfl g1 (det_indexAddr rfl rfl rfl hm2 Try.runUnderlying51 Try.sizeOf22) ?_
                  refine JA_gdt (i := 12) rfl (by kernel_rfl) (by kernel_rfl) rfl rfl rfl rfl g1 (det_loadE rfl hm2 Try.isAgg22 rfl rfl) ?_
                  refine JA_gpd (i := 13) rfl (by kernel_rfl) rfl rfl rfl rfl g1 (det_move rfl) ?_
                  refine JA_gdt (i := 14) rfl (by kernel_rfl) (by kernel_rfl) rfl rfl rfl rfl g1 (det_indexAddr rfl rfl (by first | rfl | omega) (by first | assumption | omega | decide) Try.runUnderlying22 Try.sizeOf3) ?_
                  refine JA_gdt (i := 15) rfl (by kernel_rfl) (by kernel_rfl) rfl rfl rfl rfl g1 (det_loadE rfl (by first | assumption | omega | decide) Try.isAgg3 rfl rfl) ?_
                  refine JA_gpd (i := 16) rfl (by kernel_rfl) rfl rfl rfl rfl g1 (det_move rfl) ?_
                  refine JA_gpd (i := 17) rfl (by kernel_rfl) rfl rfl rfl rfl g1 (det_move rfl) ?_
                  refine JA_gdt (i := 18) rfl (by kernel_rfl) (by kernel_rfl) rfl rfl rfl rfl g1 (det_indexAddr rfl rfl rfl hm2 Try.runUnderlying51 Try.sizeOf22) ?_
                  refine JA_gdt (i := 19) rfl (by kernel_rfl) (by kernel_rfl) rfl rfl rfl rfl g1 (det_loadE rfl hm2 Try.isAgg22 rfl rfl) ?_
                  refine JA_gpd (i := 20) rfl (by kernel_rfl) rfl rfl rfl rfl g1 (det_move rfl) ?_
                  refine JA_gdt (i := 21) rfl (by kernel_rfl) (by kernel_rfl) rfl rfl rfl rfl g1 (det_indexAddr rfl rfl (by first | rfl | omega) (by first | assumption | omega | decide) Try.runUnderlying22 Try.sizeOf3) ?_
                  refine JA_gdt (i := 22) rfl (by kernel_rfl) (by kernel_rfl) rfl rfl rfl rfl g1 (det_loadE rfl (by first | assumption | omega | decide) Try.isAgg3 rfl rfl) ?_
                  refine JA_gpd (i := 23) rfl (by kernel_rfl) rfl rfl rfl rfl g1 (det_eql rfl rfl) ?_
                  refine JA_pd (i := 24) rfl (by kernel_rfl) rfl rfl (det_pick_t rfl g1 rfl) ?_
                  refine JA_pd (i := 25) rfl (by kernel_rfl) rfl rfl (det_move rfl) ?_
                  -- stop: guard 25
                  refine JA_is (d0 := 161) true rfl (by exact decide_eq_true c3) (fun g2 => ?_)
                  refine JA_gpd (i := 26) rfl (by kernel_rfl) rfl rfl rfl rfl g2 (det_move rfl) ?_
                  refine JA_gpd (i := 27) rfl (by kernel_rfl) rfl rfl rfl rfl g2 (det_move rfl) ?_
                  refine JA_gdt (i := 28) rfl (by kernel_rfl) (by kernel_rfl) rfl rfl rfl rfl g2 (det_indexAddr rfl rfl (by first | rfl | omega) (by first | assumption | omega | decide) Try.runUnderlying25 Try.sizeOf55) ?_
                  refine JA_gpd (i := 29) rfl (by kernel_rfl) rfl rfl rfl rfl g2 (det_fieldAddrE rfl fo_55_0) ?_
                  refine JA_gdt (i := 30) rfl (by kernel_rfl) (by kernel_rfl) rfl rfl rfl rfl g2 (det_loadEk rfl (by first | assumption | omega | decide) Try.isAgg3 rfl rfl) ?_
                  refine JA_gpd (i := 31) rfl (by kernel_rfl) rfl rfl rfl rfl g2 (det_move rfl) ?_
                  refine JA_gpd (i := 32) rfl (by kernel_rfl) rfl rfl rfl rfl g2 (det_move rfl) ?_
                  refine JA_gdt (i := 33) rfl (by kernel_rfl) (by kernel_rfl) rfl rfl rfl rfl g2 (det_indexAddr rfl rfl (by first | rfl | omega) (by first | assumption | omega | decide) Try.runUnderlying22 Try.sizeOf3) ?_
                  refine JA_gdt (i := 34) rfl (by kernel_rfl) (by kernel_rfl) rfl rfl rfl rfl g2 (det_loadE rfl (by first | assumption | omega | decide) Try.isAgg3 rfl rfl) ?_
                  refine JA_gpd (i := 35) rfl (by kernel_rfl) rfl rfl rfl rfl g2 (det_leq rfl rfl) ?_
                  refine JA_pd (i := 36) rfl (by kernel_rfl) rfl rfl (det_pick_t rfl g2 rfl) ?_
                  refine JA_pd (i := 37) rfl (by kernel_rfl) rfl rfl (det_move rfl) ?_
                  -- stop: guard 37
                  refine JA_is (d0 := 173) false rfl (by exact decide_eq_false c4) (fun g3 => ?_)
                  refine JA_skip (i := 38) rfl (by kernel_rfl) rfl rfl rfl rfl g3 ?_
                  refine JA_skip (i := 39) rfl (by kernel_rfl) rfl rfl rfl rfl g3 ?_
                  refine JA_skip (i := 40) rfl (by kernel_rfl) rfl rfl rfl rfl g3 ?_
                  refine JA_skip (i := 41) rfl (by kernel_rfl) rfl rfl rfl rfl g3 ?_
                  refine JA_skip (i := 42) rfl (by kernel_rfl) rfl rfl rfl rfl g3 ?_
                  refine JA_skip (i := 43) rfl (by kernel_rfl) rfl rfl rfl rfl g3 ?_
                  refine JA_skip (i := 44) rfl (by kernel_rfl) rfl rfl rfl rfl g3 ?_
                  refine JA_skip (i := 45) rfl (by kernel_rfl) rfl rfl rfl rfl g3 ?_
                  refine JA_skip (i := 46) rfl (by kernel_rfl) rfl rfl rfl rfl g3 ?_
                  refine JA_skip (i := 47) rfl (by kernel_rfl) rfl rfl rfl rfl g3 ?_
                  refine JA_pd (i := 48) rfl (by kernel_rfl) rfl rfl (det_pick_f rfl g3 rfl) ?_
                  refine JA_done (by kernel_rfl) ?_
                  refine JE_seq ?_
                  refine JC_condF rfl rfl ?_
                  refine JC_skip ?_
                  refine JE_block ?_
                  refine JE_seq ?_
                  refine JC_region ?_
                  refine JL_pd rfl (det_move rfl) ?_
                  refine JL_pd rfl (det_add rfl rfl ⟨by omega, by omega⟩) ?_
                  refine JL_pd rfl (det_assign rfl) ?_
                  refine JL_nil ?_
                  -- stop: end
                  refine JE_roundF hK3 (k + 1) (by omega) (by omega) (stsub_consI rfl (by omega) stsub_nil) ht_nil
              · refine JC_skip ?_
                refine JE_seq ?_
                refine JC_seq ?_
                refine JC_block ?_
                refine JC_seq ?_
                refine JC_draw [] (by kernel_rfl) ?_
                refine JA_pd (i := 0) rfl (by kernel_rfl) rfl rfl (det_move rfl) ?_
                refine JA_pd (i := 1) rfl (by kernel_rfl) rfl rfl (det_move rfl) ?_
                refine JA_dt (i := 2) rfl (by kernel_rfl) (by kernel_rfl) rfl rfl (det_indexAddr rfl rfl rfl hm2 Try.runUnderlying51 Try.sizeOf22) ?_
                refine JA_dt (i := 3) rfl (by kernel_rfl) (by kernel_rfl) rfl rfl (det_loadE rfl hm2 Try.isAgg22 rfl rfl) ?_
                refine JA_pd (i := 4) rfl (by kernel_rfl) rfl rfl (det_move rfl) ?_
                refine JA_dt (i := 5) rfl (by kernel_rfl) (by kernel_rfl) rfl rfl (det_indexAddr rfl rfl (by first | rfl | omega) (by first | assumption | omega | decide) Try.runUnderlying22 Try.sizeOf3) ?_
                refine JA_dt (i := 6) rfl (by kernel_rfl) (by kernel_rfl) rfl rfl (det_loadE rfl (by first | assumption | omega | decide) Try.isAgg3 rfl rfl) ?_
                refine JA_pd (i := 7) rfl (by kernel_rfl) rfl rfl (det_geq rfl rfl) ?_
                refine JA_pd (i := 8) rfl (by kernel_rfl) rfl rfl (det_move rfl) ?_
                -- stop: guard 8
                refine JA_is (d0 := 144) true rfl (by exact decide_eq_true c2) (fun g1 => ?_)
                refine JA_gpd (i := 9) rfl (by kernel_rfl) rfl rfl rfl rfl g1 (det_move rfl) ?_
                refine JA_gpd (i := 10) rfl (by kernel_rfl) rfl rfl rfl rfl g1 (det_move rfl) ?_
                refine JA_gdt (i := 11) rfl (by kernel_rfl) (by kernel_rfl) rfl rfl rfl rfl g1 (det_indexAddr rfl rfl rfl hm2 Try.runUnderlying51 Try.sizeOf22) ?_
                refine JA_gdt (i := 12) rfl (by kernel_rfl) (by kernel_rfl) rfl rfl rfl rfl g1 (det_loadE rfl hm2 Try.isAgg22 rfl rfl) ?_
                refine JA_gpd (i := 13) rfl (by kernel_rfl) rfl rfl rfl rfl g1 (det_move rfl) ?_
                refine JA_gdt (i := 14) rfl (by kernel_rfl) (by kernel_rfl) rfl rfl rfl rfl g1 (det_indexAddr rfl rfl (by first | rfl | omega) (by first | assumption | omega | decide) Try.runUnderlying22 Try.sizeOf3) ?_
                refine JA_gdt (i := 15) rfl (by kernel_rfl) (by kernel_rfl) rfl rfl rfl rfl g1 (det_loadE rfl (by first | assumption | omega | decide) Try.isAgg3 rfl rfl) ?_
                refine JA_gpd (i := 16) rfl (by kernel_rfl) rfl rfl rfl rfl g1 (det_move rfl) ?_
                refine JA_gpd (i := 17) rfl (by kernel_rfl) rfl rfl rfl rfl g1 (det_move rfl) ?_
                refine JA_gdt (i := 18) rfl (by kernel_rfl) (by kernel_rfl) rfl rfl rfl rfl g1 (det_indexAddr rfl rfl rfl hm2 Try.runUnderlying51 Try.sizeOf22) ?_
                refine JA_gdt (i := 19) rfl (by kernel_rfl) (by kernel_rfl) rfl rfl rfl rfl g1 (det_loadE rfl hm2 Try.isAgg22 rfl rfl) ?_
                refine JA_gpd (i := 20) rfl (by kernel_rfl) rfl rfl rfl rfl g1 (det_move rfl) ?_
                refine JA_gdt (i := 21) rfl (by kernel_rfl) (by kernel_rfl) rfl rfl rfl rfl g1 (det_indexAddr rfl rfl (by first | rfl | omega) (by first | assumption | omega | decide) Try.runUnderlying22 Try.sizeOf3) ?_
                refine JA_gdt (i := 22) rfl (by kernel_rfl) (by kernel_rfl) rfl rfl rfl rfl g1 (det_loadE rfl (by first | assumption | omega | decide) Try.isAgg3 rfl rfl) ?_
                refine JA_gpd (i := 23) rfl (by kernel_rfl) rfl rfl rfl rfl g1 (det_eql rfl rfl) ?_
                refine JA_pd (i := 24) rfl (by kernel_rfl) rfl rfl (det_pick_t rfl g1 rfl) ?_
                refine JA_pd (i := 25) rfl (by kernel_rfl) rfl rfl (det_move rfl) ?_
                -- stop: guard 25
                refine JA_is (d0 := 161) false rfl (by exact decide_eq_false c3) (fun g2 => ?_)
                refine JA_skip (i := 26) rfl (by kernel_rfl) rfl rfl rfl rfl g2 ?_
                refine JA_skip (i := 27) rfl (by kernel_rfl) rfl rfl rfl rfl g2 ?_
                refine JA_skip (i := 28) rfl (by kernel_rfl) rfl rfl rfl rfl g2 ?_
                refine JA_skip (i := 29) rfl (by kernel_rfl) rfl rfl rfl rfl g2 ?_
                refine JA_skip (i := 30) rfl (by kernel_rfl) rfl rfl rfl rfl g2 ?_
                refine JA_skip (i := 31) rfl (by kernel_rfl) rfl rfl rfl rfl g2 ?_
                refine JA_skip (i := 32) rfl (by kernel_rfl) rfl rfl rfl rfl g2 ?_
                refine JA_skip (i := 33) rfl (by kernel_rfl) rfl rfl rfl rfl g2 ?_
                refine JA_skip (i := 34) rfl (by kernel_rfl) rfl rfl rfl rfl g2 ?_
                refine JA_skip (i := 35) rfl (by kernel_rfl) rfl rfl rfl rfl g2 ?_
                refine JA_pd (i := 36) rfl (by kernel_rfl) rfl rfl (det_pick_f rfl g2 rfl) ?_
                refine JA_pd (i := 37) rfl (by kernel_rfl) rfl rfl (det_move rfl) ?_
                refine JA_skip (i := 38) rfl (by kernel_rfl) rfl rfl rfl rfl rfl ?_
                refine JA_skip (i := 39) rfl (by kernel_rfl) rfl rfl rfl rfl rfl ?_
                refine JA_skip (i := 40) rfl (by kernel_rfl) rfl rfl rfl rfl rfl ?_
                refine JA_skip (i := 41) rfl (by kernel_rfl) rfl rfl rfl rfl rfl ?_
                refine JA_skip (i := 42) rfl (by kernel_rfl) rfl rfl rfl rfl rfl ?_
                refine JA_skip (i := 43) rfl (by kernel_rfl) rfl rfl rfl rfl rfl ?_
                refine JA_skip (i := 44) rfl (by kernel_rfl) rfl rfl rfl rfl rfl ?_
                refine JA_skip (i := 45) rfl (by kernel_rfl) rfl rfl rfl rfl rfl ?_
                refine JA_skip (i := 46) rfl (by kernel_rfl) rfl rfl rfl rfl rfl ?_
                refine JA_skip (i := 47) rfl (by kernel_rfl) rfl rfl rfl rfl rfl ?_
                refine JA_pd (i := 48) rfl (by kernel_rfl) rfl rfl (det_pick_f rfl rfl rfl) ?_
                refine JA_done (by kernel_rfl) ?_
                refine JE_seq ?_
                refine JC_condF rfl rfl ?_
                refine JC_skip ?_
                refine JE_block ?_
                refine JE_seq ?_
                refine JC_region ?_
                refine JL_pd rfl (det_move rfl) ?_
                refine JL_pd rfl (det_add rfl rfl ⟨by omega, by omega⟩) ?_
                refine JL_pd rfl (det_assign rfl) ?_
                refine JL_nil ?_
                -- stop: end
                refine JE_roundF hK3 (k + 1) (by omega) (by omega) (stsub_consI rfl (by omega) stsub_nil) ht_nil
            · refine JC_skip ?_
              refine JE_seq ?_
              refine JC_seq ?_
              refine JC_block ?_
              refine JC_seq ?_
              refine JC_draw [] (by kernel_rfl) ?_
              refine JA_pd (i := 0) rfl (by kernel_rfl) rfl rfl (det_move rfl) ?_
              refine JA_pd (i := 1) rfl (by kernel_rfl) rfl rfl (det_move rfl) ?_
              refine JA_dt (i := 2) rfl (by kernel_rfl) (by kernel_rfl) rfl rfl (det_indexAddr rfl rfl rfl hm2 Try.runUnderlying51 Try.sizeOf22) ?_
              refine JA_dt (i := 3) rfl (by kernel_rfl) (by kernel_rfl) rfl rfl (det_loadE rfl hm2 Try.isAgg22 rfl rfl) ?_
              refine JA_pd (i := 4) rfl (by kernel_rfl) rfl rfl (det_move rfl) ?_
              refine JA_dt (i := 5) rfl (by kernel_rfl) (by kernel_rfl) rfl rfl (det_indexAddr rfl rfl (by first | rfl | omega) (by first | assumption | omega | decide) Try.runUnderlying22 Try.sizeOf3) ?_
              refine JA_dt (i := 6) rfl (by kernel_rfl) (by kernel_rfl) rfl rfl (det_loadE rfl (by first | assumption | omega | decide) Try.isAgg3 rfl rfl) ?_
              refine JA_pd (i := 7) rfl (by kernel_rfl) rfl rfl (det_geq rfl rfl) ?_
              refine JA_pd (i := 8) rfl (by kernel_rfl) rfl rfl (det_move rfl) ?_
              -- stop: guard 8
              refine JA_is (d0 := 144) false rfl (by exact decide_eq_false c2) (fun g1 => ?_)
              refine JA_skip (i := 9) rfl (by kernel_rfl) rfl rfl rfl rfl g1 ?_
              refine JA_skip (i := 10) rfl (by kernel_rfl) rfl rfl rfl rfl g1 ?_
              refine JA_skip (i := 11) rfl (by kernel_rfl) rfl rfl rfl rfl g1 ?_
              refine JA_skip (i := 12) rfl (by kernel_rfl) rfl rfl rfl rfl g1 ?_
              refine JA_skip (i := 13) rfl (by kernel_rfl) rfl rfl rfl rfl g1 ?_
              refine JA_skip (i := 14) rfl (by kernel_rfl) rfl rfl rfl rfl g1 ?_
              refine JA_skip (i := 15) rfl (by kernel_rfl) rfl rfl rfl rfl g1 ?_
              refine JA_skip (i := 16) rfl (by kernel_rfl) rfl rfl rfl rfl g1 ?_
              refine JA_skip (i := 17) rfl (by kernel_rfl) rfl rfl rfl rfl g1 ?_
              refine JA_skip (i := 18) rfl (by kernel_rfl) rfl rfl rfl rfl g1 ?_
              refine JA_skip (i := 19) rfl (by kernel_rfl) rfl rfl rfl rfl g1 ?_
              refine JA_skip (i := 20) rfl (by kernel_rfl) rfl rfl rfl rfl g1 ?_
              refine JA_skip (i := 21) rfl (by kernel_rfl) rfl rfl rfl rfl g1 ?_
              refine JA_skip (i := 22) rfl (by kernel_rfl) rfl rfl rfl rfl g1 ?_
              refine JA_skip (i := 23) rfl (by kernel_rfl) rfl rfl rfl rfl g1 ?_
              refine JA_pd (i := 24) rfl (by kernel_rfl) rfl rfl (det_pick_f rfl g1 rfl) ?_
              refine JA_pd (i := 25) rfl (by kernel_rfl) rfl rfl (det_move rfl) ?_
              refine JA_skip (i := 26) rfl (by kernel_rfl) rfl rfl rfl rfl rfl ?_
              refine JA_skip (i := 27) rfl (by kernel_rfl) rfl rfl rfl rfl rfl ?_
              refine JA_skip (i := 28) rfl (by kernel_rfl) rfl rfl rfl rfl rfl ?_
              refine JA_skip (i := 29) rfl (by kernel_rfl) rfl rfl rfl rfl rfl ?_
              refine JA_skip (i := 30) rfl (by kernel_rfl) rfl rfl rfl rfl rfl ?_
              refine JA_skip (i := 31) rfl (by kernel_rfl) rfl rfl rfl rfl rfl ?_
              refine JA_skip (i := 32) rfl (by kernel_rfl) rfl rfl rfl rfl rfl ?_
              refine JA_skip (i := 33) rfl (by kernel_rfl) rfl rfl rfl rfl rfl ?_
              refine JA_skip (i := 34) rfl (by kernel_rfl) rfl rfl rfl rfl rfl ?_
              refine JA_skip (i := 35) rfl (by kernel_rfl) rfl rfl rfl rfl rfl ?_
              refine JA_pd (i := 36) rfl (by kernel_rfl) rfl rfl (det_pick_f rfl rfl rfl) ?_
              refine JA_pd (i := 37) rfl (by kernel_rfl) rfl rfl (det_move rfl) ?_
              refine JA_skip (i := 38) rfl (by kernel_rfl) rfl rfl rfl rfl rfl ?_
              refine JA_skip (i := 39) rfl (by kernel_rfl) rfl rfl rfl rfl rfl ?_
              refine JA_skip (i := 40) rfl (by kernel_rfl) rfl rfl rfl rfl rfl ?_
              refine JA_skip (i := 41) rfl (by kernel_rfl) rfl rfl rfl rfl rfl ?_
              refine JA_skip (i := 42) rfl (by kernel_rfl) rfl rfl rfl rfl rfl ?_
              refine JA_skip (i := 43) rfl (by kernel_rfl) rfl rfl rfl rfl rfl ?_
              refine JA_skip (i := 44) rfl (by kernel_rfl) rfl rfl rfl rfl rfl ?_
              refine JA_skip (i := 45) rfl (by kernel_rfl) rfl rfl rfl rfl rfl ?_
              refine JA_skip (i := 46) rfl (by kernel_rfl) rfl rfl rfl rfl rfl ?_
              refine JA_skip (i := 47) rfl (by kernel_rfl) rfl rfl rfl rfl rfl ?_
              refine JA_pd (i := 48) rfl (by kernel_rfl) rfl rfl (det_pick_f rfl rfl rfl) ?_
              refine JA_done (by kernel_rfl) ?_
              refine JE_seq ?_
              refine JC_condF rfl rfl ?_
              refine JC_skip ?_
              refine JE_block ?_
              refine JE_seq ?_
              refine JC_region ?_
              refine JL_pd rfl (det_move rfl) ?_
              refine JL_pd rfl (det_add rfl rfl ⟨by omega, by omega⟩) ?_
              refine JL_pd rfl (det_assign rfl) ?_
              refine JL_nil ?_
              -- stop: end
              refine JE_roundF hK3 (k + 1) (by omega) (by omega) (stsub_consI rfl (by omega) stsub_nil) ht_nil
          · obtain rfl : k = i := by omega
            refine JC_exit ?_
            refine JE_seq_exit ?_
            refine JE_then_exit ?_
            refine JE_block_here ?_
            refine JE_block ?_
            refine JE_seq ?_
            refine JC_region ?_
            refine JL_pd rfl (det_move rfl) ?_
            refine JL_pd rfl (det_add rfl rfl ⟨by omega, by omega⟩) ?_
            refine JL_pd rfl (det_assign rfl) ?_
            refine JL_nil ?_
            -- stop: end
            refine JE_roundF hK2 (k + 1) (by omega) (by omega) (stsub_consI rfl (by omega) stsub_nil) ht_nil
        · obtain rfl : i = xs.length := by omega
          refine JC_exit ?_
          refine JE_seq_exit ?_
          refine JE_then_exit ?_
          refine JE_block_here ?_
          refine JE_block ?_
          refine JE_seq ?_
          refine JC_region ?_
          refine JL_pd rfl (det_move rfl) ?_
          refine JL_pd rfl (det_add rfl rfl ⟨by omega, by omega⟩) ?_
          refine JL_pd rfl (det_assign rfl) ?_
          refine JL_nil ?_
          -- stop: end
          refine JE_roundF hK1 (m + 1) (by omega) (by omega) (stsub_consI rfl (by omega) stsub_nil) ht_nil
      · refine JC_exit ?_
        refine JE_seq_exit ?_
        refine JE_then_exit ?_
        refine JE_block_here ?_
        refine JE_seq ?_
        refine JC_seq ?_
        refine JC_region ?_
        refine JL_step rfl rfl rfl (jo_callv rfl rfl Try.call17 rfl (awake_j)) fun _ => ?_
        refine JL_pd rfl (det_assign rfl) ?_
        refine JL_nil ?_
        refine JE_seq ?_
        refine JC_ret ?_
        -- stop: out
        refine JE_out (.inl rfl) () (results1 Try.results5 (res_tmp rfl)) rfl (List.Perm.refl _) (fun _ _ => trivial)
end Go.Proofs.Ytkmaafnbefpdjaa
