/- Own texts, laid together: J20 C34 C35 OW. Nothing is asked. -/
import Derived.Test.YtgbfjcgjcnndpaaB3
import Derived.Test.YtgbfjcgjcnndpaaC33
set_option linter.unusedSimpArgs false
set_option linter.unusedVariables false
/- Drawn regions in which only what is known is read; the beginning of a known slice. Nothing is asked. -/
namespace Go.Proofs.Ytgbfjcgjcnndpaa
open Go.RowKit Go.Shelf
section
variable {X : Ctx} {P : Program} {st : Sto} {H : List Chunk} {R : World → Prop} {k : Kont}
theorem JC_draw0 {id : Nat} {l : List Oper} (hm : P.follows .mixedOrders = true) (h : JA X P l.toArray k [] [] R l.length (Array.replicate l.length false) st H R) : JC X P (.region id l.toArray true) k st H R := by
  intro a w ho
  refine wpIn_mono (Q' := kden X P k) (wpIn_region_any (Q := NoPan (kden X P k)) hm ?_) (fun e a w hq => by cases e <;> first | exact hq | exact hq.elim)
  have := wpAnyIn_of_HI _ _ _ _ (h ⟨hsub_nil, fun _ h => h⟩ a _ ho.drawn)
  simpa using this
variable {d : Option Nat} {ty : TypeId} {pos : String} {af : Array Edge} {g : Option (Nat × Bool)}
theorem det_sliceK {x y : Operand} {t E n cap z : Nat} {a : Option Addr} {q : IntKind} {j : Int} (m : Nat) (hx : opnd st x = some (.slice a n cap)) (hy : opnd st y = some (.int q j)) (hj : j = (m : Int)) (hm : m ≤ cap)
    (hu : ∀ w, (underlying t).run P w = .ok (.slice E) w) (hS : ∀ w, (sizeOf E).run P w = .ok z w) : PDet P ⟨d, .slice t x none (some y) none, ty, pos, af, g⟩ st (.slice a m cap) := fun N ac w hst => by
  subst hj
  have e3 : (0 : Int) ≤ (m : Int) ∧ (m : Int) ≤ (cap : Int) := by omega
  have e0 : ∀ p : Addr, p.add 0 = p := fun p => by cases p; simp [Addr.add]
  have e6 : (if cap = 0 then a else a.map (·.add 0)) = a := by
    split
    · rfl
    · cases a with
      | none => rfl
      | some p => simp [e0]
  simp [execOp, hst.eval hx, hst.eval hy, Instr.sliceAt, Instr.slice, Instr.sliceBounds, Instr.sliceBound, asIntOf, Sem.run_bind, Sem.run_pure, Result.andThen, hu, hS, hm, e6, e3]
theorem KSl_take {α : Type} {enc : α → List Value} {z : Nat} [hz : Rec enc z] {a : Option Addr} {n cap : Nat} {xs : List α} {w : World} (h : KSl a n cap enc xs w) {m : Nat} (hm : m ≤ n) : KSl a m cap enc (xs.take m) w := by
  obtain ⟨⟨h1, h2, h3, h4⟩, h5⟩ := h
  have hfl : (xs.take m).flatMap enc = (xs.flatMap enc).take (m * z) := by
    have e : xs.flatMap enc = (xs.take m).flatMap enc ++ (xs.drop m).flatMap enc := by rw [← List.flatMap_append, List.take_append_drop]
    have hl : ((xs.take m).flatMap enc).length = m * z := by rw [flatMap_len enc z hz.len, List.length_take]; congr 1; omega
    rw [e, List.take_append_of_le_length (Nat.le_of_eq hl.symm), List.take_of_length_le (Nat.le_of_eq hl)]
  refine ⟨⟨by omega, by omega, fun ha => ?_, fun hne => ?_⟩, by rw [List.length_take]; omega⟩
  · have := h3 ha; omega
  · have hne2 : xs.flatMap enc ≠ [] := fun e => hne (by rw [hfl, e]; simp)
    obtain ⟨b, off, q1, q2, q3⟩ := h4 hne2
    refine ⟨b, off, q1, q2, fun i c hi => q3 i c ?_⟩
    rw [hfl, List.getElem?_take] at hi
    split at hi
    · exact hi
    · cases hi
end
end Go.Proofs.Ytgbfjcgjcnndpaa

/- Plain words for cycle: distances, runs, ways. Nothing is asked. -/
namespace Go.Proofs.Ytgbfjcgjcnndpaa
open Go.RowKit Go.Shelf

/-- The least number of signals. -/
def Dist (m : Mc) (goal : Sd → Bool) (n : Nat) (s : Sd) : Prop := Pth m m.locks goal n s ∧ ∀ k, Pth m m.locks goal k s → n ≤ k
theorem Dist.uniq {m : Mc} {goal : Sd → Bool} {n k : Nat} {s : Sd} (h : Dist m goal n s) (h2 : Dist m goal k s) : n = k := Nat.le_antisymm (h.2 k h2.1) (h2.2 n h.1)
theorem dist_ex {m : Mc} {goal : Sd → Bool} : ∀ {n : Nat} {s : Sd}, Pth m m.locks goal n s → ∃ k, k ≤ n ∧ Dist m goal k s := by
  intro n
  induction n using Nat.strongRecOn with
  | ind n ih =>
    intro s h
    by_cases hx : ∃ k, k < n ∧ Pth m m.locks goal k s
    · obtain ⟨k, hk, h2⟩ := hx
      obtain ⟨k', h3, h4⟩ := ih k hk h2
      exact ⟨k', by omega, h4⟩
    · exact ⟨n, Nat.le_refl _, h, fun k hk => Classical.byContradiction fun hn => hx ⟨k, by omega, hk⟩⟩
theorem dist_next {m : Mc} {goal : Sd → Bool} {n : Nat} {s : Sd} (h : Dist m goal (n + 1) s) : ∃ t, Stp m m.locks s t ∧ Dist m goal n t := by
  obtain ⟨h1, h2⟩ := h
  cases h1 with
  | @step _ _ t hst hp => exact ⟨t, hst, hp, fun k hk => by have := h2 (k + 1) (.step hst hk); omega⟩
theorem dist_list {m : Mc} {goal : Sd → Bool} : ∀ {n : Nat} {s : Sd}, Dist m goal n s → Rch m m.locks s → ∃ L : List Sd, L.length = n + 1 ∧ L.Nodup ∧ ∀ t ∈ L, Rch m m.locks t ∧ ∃ k, k ≤ n ∧ Dist m goal k t
  | 0, s, h, hr => ⟨[s], rfl, by simp, fun t ht => by rw [List.mem_singleton.1 ht]; exact ⟨hr, 0, Nat.le_refl _, h⟩⟩
  | n + 1, s, h, hr => by
    obtain ⟨t, hst, hd⟩ := dist_next h
    obtain ⟨L, h1, h2, h3⟩ := dist_list hd (.step hr hst)
    refine ⟨s :: L, by simp [h1], List.nodup_cons.2 ⟨fun hs => ?_, h2⟩, fun u hu => ?_⟩
    · obtain ⟨_, k, hk, hd2⟩ := h3 s hs
      have := h.uniq hd2; omega
    · rcases List.mem_cons.1 hu with rfl | hu
      · exact ⟨hr, n + 1, Nat.le_refl _, h⟩
      · obtain ⟨q1, k, q2, q3⟩ := h3 u hu
        exact ⟨q1, k, by omega, q3⟩
theorem dist_lt {m : Mc} (V : Valid m) {goal : Sd → Bool} {n : Nat} {s : Sd} (h : Dist m goal n s) (hr : Rch m m.locks s) : n < 24 := by
  obtain ⟨L, h1, h2, h3⟩ := dist_list h hr
  have := nodup_len (l' := all24) h2 fun t ht => ((h3 t ht).1.inM V).all V
  rw [len_all] at this; omega
/-- One run. -/
inductive Run (m : Mc) : Sd → List Int → Sd → Prop
  | nil {s : Sd} : Run m s [] s
  | cons {s t u : Sd} {g : Int} {sg : List Int} : t ∈ nextL m m.locks s g → Run m t sg u → Run m s (g :: sg) u
theorem foldW_iff {m : Mc} (V : Valid m) : ∀ (sg : List Int) (w : Nat → Bool), WIn m w → ∀ i, i < 24 → (sg.foldl (fun w g => behW m m.locks w g) w i = true ↔ ∃ j, j < 24 ∧ w j = true ∧ Run m (sdOf j) sg (sdOf i))
  | [], w, hw, i, hi => by
    constructor
    · intro h; exact ⟨i, hi, h, .nil⟩
    · rintro ⟨j, hj, h1, h2⟩
      generalize hs : sdOf j = s at h2
      generalize ht : sdOf i = t at h2
      cases h2
      have : i = j := by rw [← ix_sd i, ← ix_sd j, hs, ht]
      subst this; exact h1
  | g :: sg, w, hw, i, hi => by
    show sg.foldl _ (behW m m.locks w g) i = true ↔ _
    rw [foldW_iff V sg _ (behW_in V hw) i hi]
    constructor
    · rintro ⟨k, hk, h1, h2⟩
      obtain ⟨j, hj, h3, h4⟩ := behW_iff.1 h1
      exact ⟨j, hj, h3, .cons h4 h2⟩
    · rintro ⟨j, hj, h1, h2⟩
      generalize hs : sdOf j = s at h2
      cases h2 with
      | @cons _ t _ _ _ ht hr =>
        subst hs
        have hin := (next_in V (hw j hj h1) ht).ix V
        exact ⟨ix t, hin.1, behW_iff.2 ⟨j, hj, h1, by rw [hin.2]; exact ht⟩, by rw [hin.2]; exact hr⟩
theorem inW_run {m : Mc} (V : Valid m) {sg : List Int} {t : Sd} : inW (runW m sg) t = true ↔ Run m ⟨0, 0⟩ sg t := by
  rw [inW_iff]
  constructor
  · rintro ⟨j, hj, h1, rfl⟩
    obtain ⟨k, hk, h2, h3⟩ := (foldW_iff V sg begW (begW_in V) j hj).1 h1
    have : k = 0 := of_decide_eq_true h2
    subst this; exact h3
  · intro h
    have hin : ∀ {s : Sd} {sg : List Int} {t : Sd}, Run m s sg t → InM m s → InM m t := by
      intro s sg t h
      induction h with
      | nil => exact id
      | cons h1 _ ih => exact fun hs => ih (next_in V hs h1)
    have hx := (hin h (zero_in V)).ix V
    exact ⟨ix t, hx.1, (foldW_iff V sg begW (begW_in V) _ hx.1).2 ⟨0, by omega, rfl, by rw [hx.2]; exact h⟩, hx.2.symm⟩
def okSg (sg : List Int) : Prop := ∀ g ∈ sg, 0 ≤ g ∧ g ≤ 7
theorem Run.pth {m : Mc} {goal : Sd → Bool} {s t : Sd} {sg : List Int} (h : Run m s sg t) (hs : okSg sg) (hg : goal t = true) : Pth m m.locks goal sg.length s := by
  induction h with
  | nil => exact .zero hg
  | @cons s t u g sg h1 _ ih =>
    have hb := hs g (by simp)
    refine .step ⟨g.toNat, by omega, ?_⟩ (ih (fun x hx => hs x (by simp [hx])) hg)
    rw [show ((g.toNat : Nat) : Int) = g by omega]; exact h1
theorem Run.rch {m : Mc} {s t : Sd} {sg : List Int} (h : Run m s sg t) (hs : okSg sg) (hr : Rch m m.locks s) : Rch m m.locks t := by
  induction h with
  | nil => exact hr
  | @cons s t u g sg h1 _ ih =>
    have hb := hs g (by simp)
    refine ih (fun x hx => hs x (by simp [hx])) (.step hr ⟨g.toNat, by omega, ?_⟩)
    rw [show ((g.toNat : Nat) : Int) = g by omega]; exact h1
theorem Run.take {m : Mc} {s t : Sd} {sg : List Int} (h : Run m s sg t) : ∀ k, ∃ u, Run m s (sg.take k) u := by
  induction h with
  | nil => intro k; exact ⟨_, by rw [List.take_nil]; exact .nil⟩
  | @cons s t u g sg h1 _ ih =>
    intro k
    cases k with
    | zero => exact ⟨s, .nil⟩
    | succ k =>
      obtain ⟨u, hu⟩ := ih k
      exact ⟨u, .cons h1 hu⟩
theorem Run.snoc {m : Mc} {s t u : Sd} {sg : List Int} {g : Int} (h : Run m s sg t) (hu : u ∈ nextL m m.locks t g) : Run m s (sg ++ [g]) u := by
  induction h with
  | nil => exact .cons hu .nil
  | cons h1 _ ih => exact .cons h1 (ih hu)
/-- What the signals of a way do. -/
theorem wayL_spec {m : Mc} (V : Valid m) {goal : Sd → Bool} : ∀ {k : Nat} {w : Nat → Bool}, WIn m w → witW m m.locks goal k w = true → (wayL m m.locks goal k w).length = k ∧ okSg (wayL m m.locks goal k w) ∧ ∃ j t, j < 24 ∧ w j = true ∧ Run m (sdOf j) (wayL m m.locks goal k w) t ∧ goal t = true
  | 0, w, hw, h => by
    refine ⟨rfl, fun g hg => (by cases hg), ?_⟩
    simp only [witW, List.any_eq_true, List.mem_range, Bool.and_eq_true] at h
    obtain ⟨j, hj, h1, h2⟩ := h
    exact ⟨j, _, hj, h1, .nil, h2⟩
  | k + 1, w, hw, h => by
    obtain ⟨g0, hg0, h0⟩ := wit_some V hw h
    obtain ⟨g, hg, h1, hno⟩ : ∃ g : Nat, g < 8 ∧ witW m m.locks goal k (behW m m.locks w (g : Int)) = true ∧ ∀ j : Nat, j < g → witW m m.locks goal k (behW m m.locks w (j : Int)) = false := by
      clear h
      induction g0 using Nat.strongRecOn with
      | ind g0 ih =>
        by_cases hx : ∃ j : Nat, j < g0 ∧ witW m m.locks goal k (behW m m.locks w (j : Int)) = true
        · obtain ⟨j, hj, h2⟩ := hx
          exact ih j hj (by omega) h2
        · exact ⟨g0, hg0, h0, fun j hj => by
            cases hc : witW m m.locks goal k (behW m m.locks w (j : Int)) with
            | false => rfl
            | true => exact absurd ⟨j, hj, hc⟩ hx⟩
    rw [wayL_hit hg h1 hno]
    obtain ⟨q1, q2, j, t, hj, h2, h3, h4⟩ := wayL_spec V (behW_in V hw) h1
    refine ⟨by rw [List.length_cons, q1], fun x hx => ?_, ?_⟩
    · rcases List.mem_cons.1 hx with rfl | hx
      · omega
      · exact q2 x hx
    · obtain ⟨i, hi, h5, h6⟩ := behW_iff.1 h2
      exact ⟨i, t, hi, h5, .cons h6 h3, h4⟩
theorem wit_zero {m : Mc} (V : Valid m) {goal : Sd → Bool} {k : Nat} : witW m m.locks goal k begW = true ↔ Pth m m.locks goal k ⟨0, 0⟩ := by
  rw [witW_iff V (begW_in V)]
  exact ⟨fun ⟨j, _, h1, h2⟩ => by have : j = 0 := of_decide_eq_true h1; subst this; exact h2, fun h => ⟨0, by omega, rfl, h⟩⟩
/-- There is a way, or there is none. -/
theorem wayO_no {m : Mc} (V : Valid m) {goal : Sd → Bool} (h : wayO m m.locks goal = none) (n : Nat) : ¬ Pth m m.locks goal n ⟨0, 0⟩ := fun hp => by
  obtain ⟨k, hk, hd⟩ := dist_ex hp
  have hlt := dist_lt V hd .zero
  have : wayO m m.locks goal = some (wayL m m.locks goal k begW) := wayO_some (by omega) ((wit_zero V).2 hd.1) fun j hj => by
    cases hc : witW m m.locks goal j begW with
    | false => rfl
    | true => have := hd.2 j ((wit_zero V).1 hc); omega
  rw [h] at this; cases this
structure WaySpec (m : Mc) (goal : Sd → Bool) (l : List Int) : Prop where
  dist : Dist m goal l.length ⟨0, 0⟩
  ok : okSg l
  run : ∃ t, Run m ⟨0, 0⟩ l t ∧ goal t = true
  lt : l.length < 24
theorem wayO_yes {m : Mc} (V : Valid m) {goal : Sd → Bool} {l : List Int} (h : wayO m m.locks goal = some l) : WaySpec m goal l := by
  unfold wayO at h
  cases hl : longO m m.locks goal with
  | none => rw [hl] at h; cases h
  | some k =>
    rw [hl] at h
    have e : wayL m m.locks goal k begW = l := by simpa using h
    subst e
    obtain ⟨h1, i, hi, e1, h3⟩ := List.find?_eq_some_iff_getElem.1 hl
    rw [List.getElem_range] at e1
    subst e1
    have hk : ∀ j, j < i → witW m m.locks goal j begW = false := fun j hj => by
      have := h3 j hj
      simpa using this
    obtain ⟨q1, q2, j, t, hj, q3, q4, q5⟩ := wayL_spec V (begW_in V) h1
    have : j = 0 := of_decide_eq_true q3
    subst this
    have hd : Dist m goal i ⟨0, 0⟩ := ⟨(wit_zero V).1 h1, fun n hn => Classical.byContradiction fun hlt => by
      have := hk n (by omega)
      rw [(wit_zero V).2 hn] at this; cases this⟩
    exact ⟨by rw [q1]; exact hd, q2, ⟨t, q4, q5⟩, by rw [q1]; exact dist_lt V hd .zero⟩
/-- Who can be, has a run; and the other way about. -/
theorem Rch.run {m : Mc} {s : Sd} (h : Rch m m.locks s) : ∃ sg, okSg sg ∧ Run m ⟨0, 0⟩ sg s := by
  induction h with
  | zero => exact ⟨[], fun g hg => (by cases hg), .nil⟩
  | step _ hst ih =>
    obtain ⟨sg, h1, h2⟩ := ih
    obtain ⟨g, hg, ht⟩ := hst
    exact ⟨sg ++ [(g : Int)], fun x hx => by
      rcases List.mem_append.1 hx with hx | hx
      · exact h1 x hx
      · rw [List.mem_singleton.1 hx]; omega, h2.snoc ht⟩
theorem Rch.way {m : Mc} (V : Valid m) {goal : Sd → Bool} {s : Sd} (h : Rch m m.locks s) (hg : goal s = true) : ∃ l, wayO m m.locks goal = some l := by
  obtain ⟨sg, h1, h2⟩ := h.run
  cases hw : wayO m m.locks goal with
  | some l => exact ⟨l, rfl⟩
  | none => exact absurd (h2.pth h1 hg) (wayO_no V hw _)
theorem Pth.rch {m : Mc} {goal : Sd → Bool} {n : Nat} {s : Sd} (h : Pth m m.locks goal n s) (hr : Rch m m.locks s) : ∃ t, Rch m m.locks t ∧ goal t = true := by
  induction h with
  | zero hg => exact ⟨_, hr, hg⟩
  | step hst _ ih => exact ih (.step hr hst)
end Go.Proofs.Ytgbfjcgjcnndpaa

/- The statements about cycle: has, subset, ready, safe, Random. -/
namespace Go.Proofs.Ytgbfjcgjcnndpaa
open Go.RowKit Go.Shelf

set_option maxRecDepth 100000 in
theorem has_j (s : Sd) (a : Option Addr) (cap : Nat) (xs : List Sd) (hl : xs.length ≤ 1000000) : Cv Try.prog 43 [.slice a xs.length cap, .agg #[I s.st, I s.sp]] (KSl a xs.length cap encSd xs) (.bool (decide (s ∈ xs))) := by
  refine Cx_of Try.func43 rfl Try.ntmps43 rfl fun w0 M0 => ?_
  refine JC_seq ?_
  refine JC_region ?_
  refine JL_step rfl rfl rfl (jo_box rfl rfl) fun b3 => ?_
  refine JL_pd rfl (det_assign rfl) ?_
  refine JL_nil ?_
  refine JE_seq ?_
  refine JC_seq ?_
  refine JC_seq ?_
  refine JC_region ?_
  refine JL_pd rfl (det_assign rfl) ?_
  refine JL_nil ?_
  refine JE_seq ?_
  refine JC_block ?_
  -- stop: loop
  refine JC_keep b3 noFp ?_
  refine JC_loopF (γ := Nat) (fun i => i ≤ xs.length ∧ s ∉ xs.take i) (fun i => [(5, I i)]) (fun _ => []) (fun i => xs.length - i) 0 ⟨Nat.zero_le _, by simp⟩ (stsub_consI rfl rfl stsub_nil) ht_nil ?_
  rintro i ⟨hi, hno⟩ K hK
  dsimp only [List.cons_append, List.nil_append]
  refine JC_seq ?_
  refine JC_seq ?_
  refine JC_region ?_
  refine JL_pd rfl (det_move rfl) ?_
  refine JL_pd rfl (det_move rfl) ?_
  refine JL_pd rfl (det_len rfl Try.runUnderlying36) ?_
  refine JL_pd rfl (det_lss rfl rfl) ?_
  refine JL_nil ?_
  refine JE_seq ?_
  -- stop: cond
  refine JC_if rfl (fun h1 => ?_) (fun h1 => ?_)
  · have hi2 : i < xs.length := by omega
    refine JC_skip ?_
    refine JE_seq ?_
    refine JC_seq ?_
    refine JC_block ?_
    refine JC_seq ?_
    refine JC_draw [] (by kernel_rfl) ?_
    refine JA_pd (i := 0) rfl (by kernel_rfl) rfl rfl (det_move rfl) ?_
    refine JA_pd (i := 1) rfl (by kernel_rfl) rfl rfl (det_move rfl) ?_
    refine JA_dt (i := 2) rfl (by kernel_rfl) (by kernel_rfl) rfl rfl (det_indexAddr rfl rfl (by first | rfl | omega) (by first | assumption | omega | decide) Try.runUnderlying36 Try.sizeOf77) ?_
    refine JA_dt (i := 3) rfl (by kernel_rfl) (by kernel_rfl) rfl rfl (det_loadEA rfl (by first | assumption | omega | decide) Try.isAgg77 Try.sizeOf77 rfl rfl rfl) ?_
    refine JA_dt (i := 4) rfl (by kernel_rfl) (by kernel_rfl) rfl rfl (det_loadKA rfl Try.isAgg77 Try.sizeOf77 rfl rfl) ?_
    refine JA_pd (i := 5) rfl (by kernel_rfl) rfl rfl (det_eqlA rfl rfl egt_77 (eqa_77 _ _ _ _)) ?_
    refine JA_done (by kernel_rfl) ?_
    refine JE_seq ?_
    -- stop: cond
    refine JC_cond rfl (fun h2 => ?_) (fun h2 => ?_)
    · have h2' : xs[i] = s := by simpa [Sd.ext'] using h2
      refine JC_seq ?_
      refine JC_region ?_
      refine JL_pd rfl (det_assign rfl) ?_
      refine JL_nil ?_
      refine JE_seq ?_
      refine JC_ret ?_
      refine JE_block_ret ?_
      refine JE_seq_ret ?_
      refine JE_then_ret ?_
      refine JE_block_ret ?_
      refine JE_seq_ret ?_
      -- stop: out
      refine JE_out (.inl rfl) () (results1 Try.results43 (res_tmp rfl)) (by rw [decide_eq_true (show s ∈ xs by rw [← h2']; exact List.getElem_mem hi2)]) (List.Perm.refl _) (fun _ _ => trivial)
    · have h2' : ¬ xs[i] = s := by simpa [Sd.ext'] using h2
      refine JC_skip ?_
      refine JE_block ?_
      refine JE_seq ?_
      refine JC_region ?_
      refine JL_pd rfl (det_move rfl) ?_
      refine JL_pd rfl (det_add rfl rfl ⟨by omega, by omega⟩) ?_
      refine JL_pd rfl (det_assign rfl) ?_
      refine JL_nil ?_
      -- stop: end
      refine JE_roundF hK (i + 1) ⟨by omega, by rw [take_snoc hi2, List.mem_append, List.mem_singleton]; exact fun h => h.elim hno fun e => h2' e.symm⟩ (by omega) (stsub_consI rfl (by omega) stsub_nil) ht_nil
  · obtain rfl : i = xs.length := by omega
    rw [List.take_length] at hno
    refine JC_exit ?_
    refine JE_seq_exit ?_
    refine JE_then_exit ?_
    refine JE_block_here ?_
    refine JE_seq ?_
    refine JC_seq ?_
    refine JC_region ?_
    refine JL_pd rfl (det_assign rfl) ?_
    refine JL_nil ?_
    refine JE_seq ?_
    refine JC_ret ?_
    -- stop: out
    refine JE_out (.inl rfl) () (results1 Try.results43 (res_tmp rfl)) (by rw [decide_eq_false hno]) (List.Perm.refl _) (fun _ _ => trivial)
def subB (xs ys : List Sd) : Bool := xs.all fun s => decide (s ∈ ys)
theorem subset_j (a b : Option Addr) (ca cb : Nat) (xs ys : List Sd) (hl : xs.length ≤ 1000000) (hl2 : ys.length ≤ 1000000) : Cv Try.prog 41 [.slice a xs.length ca, .slice b ys.length cb] (KAnd (KSl a xs.length ca encSd xs) (KSl b ys.length cb encSd ys)) (.bool (subB xs ys)) := by
  refine Cx_of Try.func41 rfl Try.ntmps41 rfl fun w0 M0 => ?_
  refine JC_seq ?_
  refine JC_region ?_
  refine JL_pd rfl (det_assign rfl) ?_
  refine JL_nil ?_
  refine JE_seq ?_
  refine JC_seq ?_
  refine JC_seq ?_
  refine JC_region ?_
  refine JL_pd rfl (det_assign rfl) ?_
  refine JL_nil ?_
  refine JE_seq ?_
  refine JC_block ?_
  -- stop: loop
  refine JC_loopF (γ := Nat) (fun i => i ≤ xs.length ∧ (xs.take i).all (fun s => decide (s ∈ ys)) = true) (fun i => [(5, I i)]) (fun _ => []) (fun i => xs.length - i) 0 ⟨Nat.zero_le _, rfl⟩ (stsub_consI rfl rfl stsub_nil) ht_nil ?_
  rintro i ⟨hi, hall⟩ K hK
  dsimp only [List.cons_append, List.nil_append]
  refine JC_seq ?_
  refine JC_seq ?_
  refine JC_region ?_
  refine JL_pd rfl (det_move rfl) ?_
  refine JL_pd rfl (det_move rfl) ?_
  refine JL_pd rfl (det_len rfl Try.runUnderlying36) ?_
  refine JL_pd rfl (det_lss rfl rfl) ?_
  refine JL_nil ?_
  refine JE_seq ?_
  -- stop: cond
  refine JC_if rfl (fun h1 => ?_) (fun h1 => ?_)
  · have hi2 : i < xs.length := by omega
    have hsn := all_snoc (p := fun s => decide (s ∈ ys)) hi2 hall
    have hno := all_no (p := fun s => decide (s ∈ ys)) hi2
    refine JC_skip ?_
    refine JE_seq ?_
    refine JC_seq ?_
    refine JC_block ?_
    refine JC_seq ?_
    refine JC_region ?_
    refine JL_pd rfl (det_move rfl) ?_
    refine JL_pd rfl (det_move rfl) ?_
    refine JL_pd rfl (det_move rfl) ?_
    refine JL_dt rfl (det_indexAddr rfl rfl (by first | rfl | omega) (by first | assumption | omega | decide) Try.runUnderlying36 Try.sizeOf77) ?_
    refine JL_dt rfl (det_loadEA rfl (by first | assumption | omega | decide) Try.isAgg77 Try.sizeOf77 rfl rfl rfl) ?_
    -- stop: op  5 t17 := (call (Call (value f43) (t12 t16) (36 77)))   <0 4>   123
    refine JL_step rfl rfl rfl (jo_callv rfl rfl Try.call43 rfl (has_j xs[i] b cb ys hl2)) fun _ => ?_
    refine JL_pd rfl (det_not rfl) ?_
    refine JL_nil ?_
    refine JE_seq ?_
    -- stop: cond
    refine JC_cond rfl (fun h2 => ?_) (fun h2 => ?_)
    · have h2' : subB xs ys = false := hno (by simpa using h2)
      refine JC_seq ?_
      refine JC_region ?_
      refine JL_pd rfl (det_assign rfl) ?_
      refine JL_nil ?_
      refine JE_seq ?_
      refine JC_ret ?_
      refine JE_block_ret ?_
      refine JE_seq_ret ?_
      refine JE_then_ret ?_
      refine JE_block_ret ?_
      refine JE_seq_ret ?_
      -- stop: out
      refine JE_out (.inl rfl) () (results1 Try.results41 (res_tmp rfl)) (by rw [h2']) (List.Perm.refl _) (fun _ _ => trivial)
    · refine JC_skip ?_
      refine JE_block ?_
      refine JE_seq ?_
      refine JC_region ?_
      refine JL_pd rfl (det_move rfl) ?_
      refine JL_pd rfl (det_add rfl rfl ⟨by omega, by omega⟩) ?_
      refine JL_pd rfl (det_assign rfl) ?_
      refine JL_nil ?_
      -- stop: end
      refine JE_roundF hK (i + 1) ⟨by omega, hsn (by simpa using h2)⟩ (by omega) (stsub_consI rfl (by omega) stsub_nil) ht_nil
  · obtain rfl : i = xs.length := by omega
    rw [List.take_length] at hall
    have h2' : subB xs ys = true := hall
    refine JC_exit ?_
    refine JE_seq_exit ?_
    refine JE_then_exit ?_
    refine JE_block_here ?_
    refine JE_seq ?_
    refine JC_seq ?_
    refine JC_region ?_
    refine JL_pd rfl (det_assign rfl) ?_
    refine JL_nil ?_
    refine JE_seq ?_
    refine JC_ret ?_
    -- stop: out
    refine JE_out (.inl rfl) () (results1 Try.results41 (res_tmp rfl)) (by rw [h2']) (List.Perm.refl _) (fun _ _ => trivial)
def readyB (m : Mc) : Bool := thinB m && decide (fault m = 0)
theorem ready_j (m : Mc) (a : MA) : Cv Try.prog 38 [.agg #[I m.states, .slice a.sa m.steps.length a.sc, .slice a.ra m.running.length a.rc, .slice a.ka m.locks.length a.kc]] (KMc m a) (.bool (readyB m)) := by
  refine Cx_of Try.func38 rfl Try.ntmps38 rfl fun w0 M0 => ?_
  refine JC_seq ?_
  refine JC_region ?_
  refine JL_step rfl rfl rfl (jo_box rfl rfl) fun b1 => ?_
  refine JL_pd rfl (det_assign rfl) ?_
  refine JL_nil ?_
  refine JE_seq ?_
  refine JC_seq ?_
  refine JC_region ?_
  refine JL_dt rfl (det_loadKA rfl Try.isAgg26 Try.sizeOf26 rfl rfl) ?_
  refine JL_step rfl rfl rfl (jo_callv rfl rfl Try.call17 rfl (Thin_j m a)) fun _ => ?_
  refine JL_pd rfl (det_move rfl) ?_
  refine JL_split (d0 := 5) rfl (fun h1 => ?_) (fun h1 => ?_)
  · refine JL_guard rfl rfl h1 ?_
    refine JL_dt rfl (det_loadKA rfl Try.isAgg26 Try.sizeOf26 rfl rfl) ?_
    refine JL_guard rfl rfl h1 ?_
    refine JL_step rfl rfl rfl (jo_callv rfl rfl Try.call30 rfl (Fault_j m a)) fun _ => ?_
    refine JL_guard rfl rfl h1 ?_
    refine JL_pd rfl (det_eql rfl rfl) ?_
    refine JL_pd rfl (det_pick_t rfl h1 rfl) ?_
    refine JL_pd rfl (det_assign rfl) ?_
    refine JL_nil ?_
    refine JE_seq ?_
    refine JC_ret ?_
    refine JE_out (.inl rfl) () (results1 Try.results38 (res_tmp rfl)) ?_ (List.Perm.refl _) (fun _ _ => trivial)
    (simp_all [readyB])
  · refine JL_skip rfl rfl h1 rfl ?_
    refine JL_skip rfl rfl h1 rfl ?_
    refine JL_skip rfl rfl h1 rfl ?_
    refine JL_pd rfl (det_pick_f rfl h1 rfl) ?_
    refine JL_pd rfl (det_assign rfl) ?_
    refine JL_nil ?_
    refine JE_seq ?_
    refine JC_ret ?_
    refine JE_out (.inl rfl) () (results1 Try.results38 (res_tmp rfl)) ?_ (List.Perm.refl _) (fun _ _ => trivial)
    (simp_all [readyB])
theorem ready_v {m : Mc} (h : readyB m = true) : fault m = 0 := by
  unfold readyB at h
  simp only [Bool.and_eq_true, decide_eq_true_eq] at h
  exact h.2
theorem ready_of {m : Mc} (h : fault m = 0) : readyB m = true := by
  have V := valid_of h
  have h1 := V.ns; have h2 := V.nl; have h3 := V.nr
  unfold readyB thinB
  simp only [Bool.and_eq_true, decide_eq_true_eq]
  exact ⟨⟨⟨by omega, by omega⟩, by omega⟩, h⟩
def safeB (m : Mc) : Bool := (wayO m m.locks (dangerB m)).isNone
theorem safe_j (m : Mc) (a : MA) (he : fault m = 0) : Cv Try.prog 40 [.agg #[I m.states, .slice a.sa m.steps.length a.sc, .slice a.ra m.running.length a.rc, .slice a.ka m.locks.length a.kc]] (KMc m a) (.tuple #[.bool (safeB m), .bool true]) := by
  have V := valid_of he
  have h1 := V.ns; have h2 := V.nl; have h3 := V.nr
  have hS : safeB m = (wayO m m.locks (dangerB m)).isNone := rfl
  cases hw : wayO m m.locks (dangerB m) with
  | none =>
    rw [hw] at hS
    rw [hS]
    have hd := fun b : MA => Danger_jn m b he hw
    refine Cx_of Try.func40 rfl Try.ntmps40 rfl fun w0 M0 => ?_
    refine JC_seq ?_
    refine JC_region ?_
    refine JL_step rfl rfl rfl (jo_box rfl rfl) fun b1 => ?_
    refine JL_pd rfl (det_assign rfl) ?_
    refine JL_pd rfl (det_assign rfl) ?_
    refine JL_nil ?_
    refine JE_seq ?_
    refine JC_seq ?_
    refine JC_region ?_
    refine JL_dt rfl (det_loadKA rfl Try.isAgg26 Try.sizeOf26 rfl rfl) ?_
    refine JL_step rfl rfl rfl (jo_call rfl rfl Try.call20 rfl (Machine_j m a (by omega) (by omega) (by omega))) fun x8 => ?_
    refine JL_step rfl rfl rfl (jo_callv rfl rfl Try.call26 rfl (hd x8)) fun _ => ?_
    refine JL_pd rfl (det_move rfl) ?_
    refine JL_pd rfl (det_extract rfl rfl) ?_
    refine JL_pd rfl (det_extract rfl rfl) ?_
    refine JL_pd rfl (det_assign rfl) ?_
    refine JL_pd rfl (det_assign rfl) ?_
    refine JL_nil ?_
    refine JE_seq ?_
    refine JC_seq ?_
    refine JC_region ?_
    refine JL_pd rfl (det_move rfl) ?_
    refine JL_pd rfl (det_eql rfl rfl) ?_
    refine JL_pd rfl (det_move rfl) ?_
    refine JL_pd rfl (det_eql rfl rfl) ?_
    refine JL_pd rfl (det_move rfl) ?_
    -- stop: guard 4
    skip
    refine JL_is (d0 := 16) false rfl (by rfl) (fun g1 => ?_)
    refine JL_guard rfl rfl g1 ?_
    refine JL_pd rfl (det_move rfl) ?_
    refine JL_guard rfl rfl g1 ?_
    refine JL_pd rfl (det_eql rfl rfl) ?_
    refine JL_pd rfl (det_pick_f rfl g1 rfl) ?_
    refine JL_pd rfl (det_assign rfl) ?_
    refine JL_pd rfl (det_assign rfl) ?_
    refine JL_nil ?_
    refine JE_seq ?_
    refine JC_ret ?_
    -- stop: out
    refine JE_out (.inl rfl) () (results2 Try.results40 (res_tmp rfl) (res_tmp rfl)) rfl (List.Perm.refl _) (fun _ _ => trivial)
  | some l =>
    rw [hw] at hS
    rw [hS]
    have hd := fun b : MA => Danger_js m b he l hw
    refine Cx_of Try.func40 rfl Try.ntmps40 rfl fun w0 M0 => ?_
    refine JC_seq ?_
    refine JC_region ?_
    refine JL_step rfl rfl rfl (jo_box rfl rfl) fun b1 => ?_
    refine JL_pd rfl (det_assign rfl) ?_
    refine JL_pd rfl (det_assign rfl) ?_
    refine JL_nil ?_
    refine JE_seq ?_
    refine JC_seq ?_
    refine JC_region ?_
    refine JL_dt rfl (det_loadKA rfl Try.isAgg26 Try.sizeOf26 rfl rfl) ?_
    refine JL_step rfl rfl rfl (jo_call rfl rfl Try.call20 rfl (Machine_j m a (by omega) (by omega) (by omega))) fun x8 => ?_
    refine JL_step rfl rfl rfl (jo_call rfl rfl Try.call26 rfl (hd x8)) fun x9 => ?_
    refine JL_pd rfl (det_move rfl) ?_
    refine JL_pd rfl (det_extract rfl rfl) ?_
    refine JL_pd rfl (det_extract rfl rfl) ?_
    refine JL_pd rfl (det_assign rfl) ?_
    refine JL_pd rfl (det_assign rfl) ?_
    refine JL_nil ?_
    refine JE_seq ?_
    refine JC_seq ?_
    refine JC_region ?_
    refine JL_pd rfl (det_move rfl) ?_
    refine JL_pd rfl (det_eql rfl rfl) ?_
    refine JL_pd rfl (det_move rfl) ?_
    refine JL_pd rfl (det_eql rfl rfl) ?_
    refine JL_pd rfl (det_move rfl) ?_
    -- stop: guard 4
    refine JL_is (d0 := 16) true rfl (by rfl) (fun g1 => ?_)
    refine JL_skip rfl rfl g1 rfl ?_
    refine JL_skip rfl rfl g1 rfl ?_
    refine JL_pd rfl (det_pick_t rfl g1 rfl) ?_
    refine JL_pd rfl (det_assign rfl) ?_
    refine JL_pd rfl (det_assign rfl) ?_
    refine JL_nil ?_
    refine JE_seq ?_
    refine JC_ret ?_
    -- stop: out
    refine JE_out (.inl rfl) () (results2 Try.results40 (res_tmp rfl) (res_tmp rfl)) rfl (List.Perm.refl _) (fun _ _ => trivial)
/-! A run by words. -/
def encU (n : Int) : List Value := [.int .u16 n]
instance : Rec encU 1 := ⟨fun _ => rfl, by decide⟩
def wordsOk (ws : List Int) : Prop := ∀ x ∈ ws, 0 ≤ x ∧ x ≤ 65535
def stepR (m : Mc) (q : List Int × Sd) (w : Int) : List Int × Sd :=
  match (nextL m m.locks q.2 (w % 8))[(w / 8 % (nextL m m.locks q.2 (w % 8)).length).toNat]? with
  | some t => (q.1 ++ [w % 8], t)
  | none => q
def randS (m : Mc) (ws : List Int) : List Int × Sd := (ws.take 20).foldl (stepR m) ([], ⟨0, 0⟩)
theorem randS_spec {m : Mc} (ws : List Int) : Run m ⟨0, 0⟩ (randS m ws).1 (randS m ws).2 ∧ okSg (randS m ws).1 ∧ (randS m ws).1.length ≤ 20 := by
  have key : ∀ (ws : List Int) (q : List Int × Sd) (n : Nat), Run m ⟨0, 0⟩ q.1 q.2 ∧ okSg q.1 ∧ q.1.length ≤ n → Run m ⟨0, 0⟩ (ws.foldl (stepR m) q).1 (ws.foldl (stepR m) q).2 ∧ okSg (ws.foldl (stepR m) q).1 ∧ (ws.foldl (stepR m) q).1.length ≤ n + ws.length := by
    intro ws
    induction ws with
    | nil => intro q n h; exact h
    | cons w ws ih =>
      rintro q n ⟨h1, h2, h3⟩
      have : Run m ⟨0, 0⟩ (stepR m q w).1 (stepR m q w).2 ∧ okSg (stepR m q w).1 ∧ (stepR m q w).1.length ≤ n + 1 := by
        unfold stepR
        split
        · rename_i t ht
          refine ⟨h1.snoc (List.mem_of_getElem? ht), fun g hg => ?_, by simp; omega⟩
          rcases List.mem_append.1 hg with hg | hg
          · exact h2 g hg
          · rw [List.mem_singleton.1 hg]; omega
        · exact ⟨h1, h2, by omega⟩
      have := ih (stepR m q w) (n + 1) this
      simp only [List.foldl_cons, List.length_cons]
      exact ⟨this.1, this.2.1, by omega⟩
  have := key (ws.take 20) ([], ⟨0, 0⟩) 0 ⟨.nil, fun g hg => (by cases hg), Nat.le_refl _⟩
  exact ⟨this.1, this.2.1, by have h := this.2.2; rw [List.length_take] at h; unfold randS; omega⟩
theorem randS_snoc (m : Mc) (ws : List Int) {i : Nat} (h : i < ws.length) : (ws.take (i + 1)).foldl (stepR m) ([], ⟨0, 0⟩) = stepR m ((ws.take i).foldl (stepR m) ([], ⟨0, 0⟩)) ws[i] := by
  rw [take_snoc h, List.foldl_append]; rfl
set_option maxRecDepth 100000 in
set_option maxHeartbeats 1000000 in
theorem Random_j (m : Mc) (a : MA) (ws : List Int) (wa : Option Addr) (wc : Nat) (he : fault m = 0) (hw : wordsOk ws) : Cr Try.prog 45 [.agg #[I m.states, .slice a.sa m.steps.length a.sc, .slice a.ra m.running.length a.rc, .slice a.ka m.locks.length a.kc], .slice wa ws.length wc] (KAnd (KMc m a) (KSl wa ws.length wc encU ws)) (fun q : Option Addr × Nat => .tuple #[.slice q.1 (randS m ws).1.length q.2, .agg #[I (randS m ws).2.st, I (randS m ws).2.sp]]) (fun q => KSl q.1 (randS m ws).1.length q.2 encI (randS m ws).1) := by
  have V := valid_of he
  have hlk := V.nl; have hst := V.ns
  have hspec := fun i => randS_spec (m := m) (ws.take i)
  refine Cx_of Try.func45 rfl Try.ntmps45 rfl fun w0 M0 => ?_
  refine JC_seq ?_
  refine JC_region ?_
  refine JL_step rfl rfl rfl (jo_box rfl rfl) fun b2 => ?_
  refine JL_pd rfl (det_assign rfl) ?_
  refine JL_step rfl rfl rfl (jo_alloc0 Try.zeroValue53 rfl) fun b5 => ?_
  refine JL_nil ?_
  refine JE_seq ?_
  refine JC_seq ?_
  refine JC_region ?_
  refine JL_pd rfl (det_assign rfl) ?_
  refine JL_nil ?_
  refine JE_seq ?_
  refine JC_seq ?_
  refine JC_region ?_
  refine JL_pd rfl (det_build rfl (bld_53)) ?_
  refine JL_step rfl rfl rfl (jo_alloc0 Try.zeroValue53 rfl) fun b7 => ?_
  refine JL_step0 rfl rfl (jo_store rfl rfl rfl (by first | (simp only [splice_norm]; done) | (simp only [splice_norm]; rfl) | rfl) Try.sizeOf53 rfl rfl) fun _ => ?_
  refine JL_nil ?_
  refine JE_seq ?_
  refine JC_seq ?_
  refine JC_seq ?_
  refine JC_region ?_
  refine JL_pd rfl (det_assign rfl) ?_
  refine JL_nil ?_
  refine JE_seq ?_
  refine JC_block ?_
  -- stop: loop
  refine JC_nil 3 1 ?_
  refine JC_keep b2 noFp ?_
  refine JC_pure (p := ws.length ≤ 9223372036854775807) (by intro w h; exact (Knows.know (F := KSl wa ws.length wc encU ws) w h).1.bd) fun hsz => ?_
  refine JC_loopF (γ := Nat × Value × List Int × Sd) (fun q => q.1 ≤ ws.length ∧ q.1 ≤ 20 ∧ (q.2.2.1, q.2.2.2) = (ws.take q.1).foldl (stepR m) ([], ⟨0, 0⟩) ∧ Run m ⟨0, 0⟩ q.2.2.1 q.2.2.2 ∧ okSg q.2.2.1 ∧ q.2.2.1.length ≤ q.1) (fun q => [(8, I q.1), (6, q.2.1)]) (fun q => [bx b7 [I q.2.2.2.st, I q.2.2.2.sp], ow q.2.1 3 1 q.2.2.1.length (q.2.2.1.flatMap encI)]) (fun q => ws.length - q.1) (0, .slice none 0 0, [], ⟨0, 0⟩) ⟨Nat.zero_le _, Nat.zero_le _, rfl, .nil, (fun g hg => by cases hg), Nat.le_refl _⟩ (stsub_consI rfl rfl (stsub_cons rfl stsub_nil)) (ht_bx rfl (ht_ow rfl rfl ht_nil)) ?_
  rintro ⟨i, u, sg, s⟩ ⟨hi, hi20, heq, hrun, hsg, hln⟩ K hK
  dsimp only [List.cons_append, List.nil_append] at hi hi20 heq hrun hsg hln ⊢
  refine JC_seq ?_
  refine JC_seq ?_
  refine JC_region ?_
  refine JL_pd rfl (det_move rfl) ?_
  refine JL_pd rfl (det_move rfl) ?_
  refine JL_pd rfl (det_len rfl Try.runUnderlying83) ?_
  refine JL_pd rfl (det_lss rfl rfl) ?_
  refine JL_pd rfl (det_move rfl) ?_
  -- stop: guard 4
  refine JL_join1 3 19 (.bool (decide ((i : Int) < (ws.length : Int)) && decide ((i : Int) < 20))) (fun hj => ?_) ?_
  · refine JL_split (d0 := 16) rfl (fun q2 => ?_) (fun q2 => ?_)
    · refine JL_guard rfl rfl q2 ?_
      refine JL_pd rfl (det_move rfl) ?_
      refine JL_guard rfl rfl q2 ?_
      refine JL_pd rfl (det_lss rfl rfl) ?_
      refine JL_pd rfl (det_pick_t rfl q2 rfl) ?_
      exact hj (by kernel_rfl) (stsub_consB rfl (by clear hj; first | rfl | (simp only [q2, Bool.and_true, Bool.true_and, Bool.false_and, Bool.and_false, Bool.or_true, Bool.true_or, Bool.or_false, Bool.false_or, Bool.not_true, Bool.not_false]; done) | (simp [q2]; done) | (simp at q2; done) | (simp [q2] <;> omega) | (exfalso; simp at q2; omega)) stsub_nil)
    · refine JL_skip rfl rfl q2 rfl ?_
      refine JL_skip rfl rfl q2 rfl ?_
      refine JL_pd rfl (det_pick_f rfl q2 rfl) ?_
      exact hj (by kernel_rfl) (stsub_consB rfl (by clear hj; first | rfl | (simp only [q2, Bool.and_true, Bool.true_and, Bool.false_and, Bool.and_false, Bool.or_true, Bool.true_or, Bool.or_false, Bool.false_or, Bool.not_true, Bool.not_false]; done) | (simp [q2]; done) | (simp at q2; done) | (simp [q2] <;> omega) | (exfalso; simp at q2; omega)) stsub_nil)
  refine JL_nil ?_
  refine JE_seq ?_
  -- stop: cond
  refine JC_cond rfl (fun h1 => ?_) (fun h1 => ?_)
  · simp only [Bool.and_eq_true, decide_eq_true_eq] at h1
    have hi2 : i < ws.length := by omega
    have hwd := hw _ (List.getElem_mem hi2)
    have hsn := randS_snoc m ws hi2
    rw [← heq] at hsn
    have hrch := hrun.rch hsg .zero
    have hin := hrch.inM V
    have e8 : ws[i].tmod 8 = ws[i] % 8 := Int.tmod_eq_emod_of_nonneg hwd.1
    have hnx := Next_j m a m.locks a.ka a.kc s (ws[i] % 8) (by omega) (by omega) (by obtain ⟨_, _, q1, q2⟩ := hin; omega) (.inl (by omega))
    rw [← e8] at hnx
    have hst : ∀ L, L = nextL m m.locks s (ws[i].tmod 8) → stepR m (sg, s) ws[i] = match L[(ws[i] / 8 % L.length).toNat]? with | some t => (sg ++ [ws[i].tmod 8], t) | none => (sg, s) := by
      rintro L rfl; rw [e8]; rfl
    obtain ⟨L, hL⟩ : ∃ L, L = nextL m m.locks s (ws[i].tmod 8) := ⟨_, rfl⟩
    rw [← hL] at hnx
    have hst := hst L hL
    have hLlen : L.length ≤ 24 := by rw [hL]; exact nextL_len V _ _ _
    refine JC_skip ?_
    refine JE_seq ?_
    refine JC_seq ?_
    refine JC_block ?_
    refine JC_seq ?_
    refine JC_region ?_
    refine JL_pd rfl (det_move rfl) ?_
    refine JL_pd rfl (det_move rfl) ?_
    refine JL_dt rfl (det_indexAddr rfl rfl (by first | rfl | omega) (by first | assumption | omega | decide) Try.runUnderlying83 Try.sizeOf126) ?_
    refine JL_dt rfl (det_loadE rfl (by first | assumption | omega | decide) Try.isAgg126 rfl rfl) ?_
    refine JL_pd rfl (det_convI rfl Try.runUnderlying126 Try.runUnderlying3 (i64_wrap ⟨by omega, by omega⟩)) ?_
    refine JL_pd rfl (det_rem rfl rfl (by omega)) ?_
    refine JL_pd rfl (det_assign rfl) ?_
    refine JL_nil ?_
    refine JE_seq ?_
    refine JC_seq ?_
    refine JC_region ?_
    refine JL_dt rfl (det_loadKA rfl Try.isAgg26 Try.sizeOf26 rfl rfl) ?_
    refine JL_pd rfl (det_fieldAddr rfl fo_26_3) ?_
    refine JL_dt rfl (det_loadK rfl Try.isAgg24 rfl) ?_
    refine JL_dt rfl (det_loadKA rfl Try.isAgg53 Try.sizeOf53 rfl rfl) ?_
    refine JL_pd rfl (det_move rfl) ?_
    -- stop: op  5 t33 := (call (Call (value f76) (t28 t30 t31 t32) (26 24 53 3)))   <0 2 3 4>   70
    refine JL_step rfl rfl rfl (jo_call rfl rfl Try.call76 rfl (hnx)) fun ⟨la, lc⟩ => ?_
    refine JL_pd rfl (det_assign rfl) ?_
    refine JL_nil ?_
    refine JE_seq ?_
    refine JC_seq ?_
    refine JC_seq ?_
    refine JC_region ?_
    refine JL_pd rfl (det_move rfl) ?_
    refine JL_pd rfl (det_len rfl Try.runUnderlying41) ?_
    refine JL_pd rfl (det_eql rfl rfl) ?_
    refine JL_nil ?_
    refine JE_seq ?_
    -- stop: cond
    refine JC_if rfl (fun h2 => ?_) (fun h2 => ?_)
    · have hL0 : L = [] := List.eq_nil_of_length_eq_zero (by omega)
      rw [hL0] at hst
      simp only [List.getElem?_nil] at hst
      refine JC_exit ?_
      refine JE_seq_exit ?_
      refine JE_block_here ?_
      refine JE_seq ?_
      refine JC_region ?_
      refine JL_pd rfl (det_move rfl) ?_
      refine JL_pd rfl (det_add rfl rfl ⟨by omega, by omega⟩) ?_
      refine JL_pd rfl (det_assign rfl) ?_
      refine JL_nil ?_
      -- stop: end
      refine JE_roundF hK (i + 1, u, sg, s) ⟨by simp only; omega, by simp only; omega, by simp only; rw [hsn, hst], hrun, hsg, by simp only; omega⟩ (by simp only; omega) (stsub_consI rfl (by simp only; omega) (stsub_cons rfl stsub_nil)) (ht_cons (ht_cons ht_nil))
    · have hpos : 0 < L.length := by omega
      have eq8 : ws[i].tdiv 8 = ws[i] / 8 := Int.tdiv_eq_ediv_of_nonneg hwd.1
      have hq0 : 0 ≤ ws[i] / 8 := by omega
      have em : (ws[i].tdiv 8).tmod (L.length : Int) = (((ws[i] / 8 % (L.length : Int)).toNat : Nat) : Int) := by
        rw [eq8, Int.tmod_eq_emod_of_nonneg hq0]
        have := Int.emod_nonneg (ws[i] / 8) (show (L.length : Int) ≠ 0 by omega)
        omega
      have hjl : (ws[i] / 8 % (L.length : Int)).toNat < L.length := by
        have h1 := Int.emod_nonneg (ws[i] / 8) (show (L.length : Int) ≠ 0 by omega)
        have h2 := Int.emod_lt_of_pos (ws[i] / 8) (show (0 : Int) < L.length by omega)
        omega
      generalize hjj : (ws[i] / 8 % (L.length : Int)).toNat = j at em hjl hst
      rw [List.getElem?_eq_getElem hjl] at hst
      simp only at hst
      have hmem : L[j] ∈ nextL m m.locks s (ws[i].tmod 8) := by rw [← hL]; exact List.getElem_mem hjl
      have hb7 : 0 ≤ ws[i].tmod 8 ∧ ws[i].tmod 8 ≤ 7 := by rw [e8]; omega
      refine JC_skip ?_
      refine JE_seq ?_
      refine JC_draw0 (by kernel_rfl) ?_
      refine JA_pd (i := 0) rfl (by kernel_rfl) rfl rfl (det_move rfl) ?_
      refine JA_pd (i := 1) rfl (by kernel_rfl) rfl rfl (det_move rfl) ?_
      refine JA_pd (i := 4) rfl (by kernel_rfl) rfl rfl (det_move rfl) ?_
      refine JA_pd (i := 5) rfl (by kernel_rfl) rfl rfl (det_move rfl) ?_
      refine JA_pd (i := 6) rfl (by kernel_rfl) rfl rfl (det_move rfl) ?_
      refine JA_dt (i := 7) rfl (by kernel_rfl) (by kernel_rfl) rfl rfl (det_indexAddr rfl rfl (by first | rfl | omega) (by first | assumption | omega | decide) Try.runUnderlying83 Try.sizeOf126) ?_
      refine JA_dt (i := 8) rfl (by kernel_rfl) (by kernel_rfl) rfl rfl (det_loadE rfl (by first | assumption | omega | decide) Try.isAgg126 rfl rfl) ?_
      refine JA_pd (i := 9) rfl (by kernel_rfl) rfl rfl (det_convI rfl Try.runUnderlying126 Try.runUnderlying3 (i64_wrap ⟨by omega, by omega⟩)) ?_
      refine JA_pd (i := 10) rfl (by kernel_rfl) rfl rfl (det_quo rfl rfl (by decide) ⟨by rw [eq8]; omega, by rw [eq8]; omega⟩) ?_
      refine JA_pd (i := 11) rfl (by kernel_rfl) rfl rfl (det_move rfl) ?_
      refine JA_pd (i := 12) rfl (by kernel_rfl) rfl rfl (det_len rfl Try.runUnderlying41) ?_
      refine JA_pd (i := 13) rfl (by kernel_rfl) rfl rfl (det_rem rfl rfl (by omega)) ?_
      refine JA_dt (i := 14) rfl (by kernel_rfl) (by kernel_rfl) rfl rfl (det_indexAddr (i := j) rfl rfl em hjl Try.runUnderlying41 Try.sizeOf53) ?_
      refine JA_dt (i := 15) rfl (by kernel_rfl) (by kernel_rfl) rfl rfl (det_loadEA rfl (by first | assumption | omega | decide) Try.isAgg53 Try.sizeOf53 rfl rfl rfl) ?_
      refine JA_oneH (i := 2) (by kernel_rfl) rfl rfl (jo_buildSlice rfl (bsl_23_1_0 _)) (fun _ => ⟨HIn.sub, Knows.know⟩) fun b39 => ?_
      refine JA_oneH (i := 3) (by kernel_rfl) rfl rfl (jo_append el_23 rfl rfl rfl rfl (by omega)) (fun _ => ⟨HIn.sub, Knows.know⟩) fun b40 => ?_
      refine JA_pd (i := 16) rfl (by kernel_rfl) rfl rfl (det_assign rfl) ?_
      refine JA_oneH (i := 17) (by kernel_rfl) rfl rfl (jo_store rfl rfl rfl (by first | (simp only [splice_norm]; done) | (simp only [splice_norm]; rfl) | rfl) Try.sizeOf53 rfl rfl) (fun _ => ⟨HIn.sub, Knows.know⟩) fun _ => ?_
      refine JA_done (by kernel_rfl) ?_
      refine JE_block ?_
      refine JE_seq ?_
      refine JC_region ?_
      refine JL_pd rfl (det_move rfl) ?_
      refine JL_pd rfl (det_add rfl rfl ⟨by omega, by omega⟩) ?_
      refine JL_pd rfl (det_assign rfl) ?_
      refine JL_nil ?_
      -- stop: end
      refine JE_roundF hK (i + 1, .slice (some ⟨b40.1, 0, none⟩) (sg.length + 1) b40.2, sg ++ [ws[i].tmod 8], L[j]) ⟨by simp only; omega, by simp only; omega, by simp only; rw [hsn, hst], hrun.snoc hmem, ?_, by simp only [List.length_append, List.length_singleton]; omega⟩ (by simp only; omega) (stsub_consI rfl (by simp only; omega) (stsub_cons rfl stsub_nil)) (ht_bx rfl (ht_ow (by simp) (by simp [encI]) ht_nil))
      intro g hg
      rcases List.mem_append.1 hg with hg | hg
      · exact hsg g hg
      · rw [List.mem_singleton.1 hg]; exact hb7
  · have hfin : (sg, s) = randS m ws := by
      rw [heq]; unfold randS
      have : ws.take i = ws.take 20 := by
        rw [Bool.and_eq_false_iff] at h1
        simp only [decide_eq_false_iff_not] at h1
        by_cases e : i = 20
        · rw [e]
        · have : i = ws.length := by omega
          rw [this, List.take_length, List.take_of_length_le (by omega)]
      rw [this]
    rw [← hfin]
    refine JC_slice (enc := encI) (v := u) sg noFp rfl rfl ?_
    rintro av cv rfl
    refine JC_exit ?_
    refine JE_seq_exit ?_
    refine JE_then_exit ?_
    refine JE_block_here ?_
    refine JE_seq ?_
    refine JC_seq ?_
    refine JC_draw [3] (by kernel_rfl) ?_
    refine JA_pd (i := 0) rfl (by kernel_rfl) rfl rfl (det_move rfl) ?_
    refine JA_dt (i := 1) rfl (by kernel_rfl) (by kernel_rfl) rfl rfl (det_loadKA rfl Try.isAgg53 Try.sizeOf53 rfl rfl) ?_
    refine JA_pd (i := 2) rfl (by kernel_rfl) rfl rfl (det_assign rfl) ?_
    refine JA_tail (i := 3) (by kernel_rfl) rfl rfl rfl rfl (jo_store rfl rfl rfl (by first | (simp only [splice_norm]; done) | (simp only [splice_norm]; rfl) | rfl) Try.sizeOf53 rfl rfl) fun _ => ?_
    refine JT_done (by kernel_rfl) ?_
    refine JE_seq ?_
    refine JC_ret ?_
    -- stop: out
    refine JE_out (.inl rfl) (av, cv) (results2 Try.results45 (res_tmp rfl) (res_box rfl Try.isAgg53 Try.sizeOf53 rfl)) rfl (List.Perm.refl _) (fun w h => h.1)
end Go.Proofs.Ytgbfjcgjcnndpaa

/- The statements about cycle: words that came in. -/
namespace Go.Proofs.Ytgbfjcgjcnndpaa
open Go.ChangeShapes Go.WideShapes Go.ChangeAt Go.RowKit Go.Deep Go.Joins
abbrev Wf16 := { m : Int // (Lit.int .u16 m).wf = true }
def encWf (n : Wf16) : List Value := [.int .u16 n.1]
instance : Rec encWf 1 := ⟨fun _ => rfl, by decide⟩
theorem opensU : OpensTo Try.prog 126 encWf := (opens_wfint Try.underlying126).to id fun _ => rfl
set_option maxRecDepth 100000 in
theorem open_words {H : Type} {enc : TypeId × Value → H} {w : World} {r : Reach} {b0 base : Nat} {sp : Nat → Bool} {held : Bool} {v : Value} {d : DataW H} {p : List MemPlace} (hv : Value.okWide Try.prog w r b0 83 v) (h : DataW.Trod enc Try.prog w base sp held 83 v d p) :
    ∃ (ws : List Int) (a : Option Addr) (c : Nat), v = .slice a ws.length c ∧ wordsOk ws ∧ KSl a ws.length c encU ws w := by
  obtain ⟨a, c, xs, rfl, hk⟩ := open_slicev Try.underlying83 opensU (by kernel_rfl) hv h
  refine ⟨xs.map (·.1), a, c, by simp, ?_, ?_⟩
  · intro x hx
    obtain ⟨y, _, rfl⟩ := List.mem_map.1 hx
    have := y.2
    simpa [Lit.wf, IntKind.min, IntKind.max, IntKind.signed, IntKind.bits] using this
  · rw [List.length_map]; exact KSl_map (e := encWf) (e2 := encU) (fun x : Wf16 => x.1) (fun _ => rfl) hk
end Go.Proofs.Ytgbfjcgjcnndpaa
