/- A machine whose states are numbered otherwise (plain). -/
import Derived.Test.YtgbfjcgjcnndpaaC48b
set_option linter.unusedSimpArgs false
set_option linter.unusedVariables false
namespace Go.Proofs.Ytgbfjcgjcnndpaa
open Go.RowKit Go.Shelf

def phi (f : Int → Int) (s : Sd) : Sd := ⟨f s.st, s.sp⟩
def fLk (f : Int → Int) (l : Lk) : Lk := if 5 < l.sg then ⟨l.sg, f l.at_⟩ else l
def fSp (f : Int → Int) (s : Sp) : Sp := ⟨f s.fr, f s.to_, s.sg⟩
/-- A machine is another one's, by other numbers of its states. -/
structure Ren (m x : Mc) (f : Int → Int) : Prop where
  vm : fault m = 0
  vx : fault x = 0
  st : x.states = m.states
  inj : ∀ s t, 0 ≤ s → s < m.states → 0 ≤ t → t < m.states → f s = f t → s = t
  z : f 0 = 0
  steps : x.steps = m.steps.map (fSp f)
  run : ∀ s, 0 ≤ s → s < m.states → (f s ∈ x.running ↔ s ∈ m.running)
  locks : x.locks = m.locks.map (fLk f)
section
variable {m x : Mc} {f : Int → Int}
theorem Ren.phi_inj (R : Ren m x f) {s t : Sd} (hs : InM m s) (ht : InM m t) (e : phi f s = phi f t) : s = t := by
  have h := Sd.ext'.1 e
  exact Sd.ext'.2 ⟨R.inj _ _ hs.1 hs.2.1 ht.1 ht.2.1 h.1, h.2⟩
theorem Ren.fLk_inj (R : Ren m x f) {a b : Lk} (ha : okLock m a = true) (hb : okLock m b = true) (e : fLk f a = fLk f b) : a = b := by
  unfold fLk at e
  unfold okLock inI at ha hb
  by_cases h1 : 5 < a.sg
  · by_cases h2 : 5 < b.sg
    · rw [if_pos h1, if_pos h2] at e
      obtain ⟨e1, e2⟩ := Lk.ext'.1 e
      split at ha
      · split at hb
        · have ha := of_decide_eq_true ha
          have hb := of_decide_eq_true hb
          exact Lk.ext'.2 ⟨e1, R.inj _ _ ha.1 (by omega) hb.1 (by omega) e2⟩
        · simp only [Bool.and_eq_true, decide_eq_true_eq] at hb; omega
      · simp only [Bool.and_eq_true, decide_eq_true_eq] at ha; omega
    · rw [if_pos h1, if_neg h2] at e
      have := (Lk.ext'.1 e).1
      simp only at this; omega
  · by_cases h2 : 5 < b.sg
    · rw [if_neg h1, if_pos h2] at e
      have := (Lk.ext'.1 e).1
      simp only at this; omega
    · rw [if_neg h1, if_neg h2] at e; exact e
theorem lockAt_ok (V : Valid m) {s : Sd} (hs : InM m s) {g : Nat} (hg : g < 8) : okLock m (lockAt s (g : Int)) = true := by
  obtain ⟨a, b, c, d⟩ := hs
  unfold lockAt okLock inI
  by_cases h6 : (g : Int) = 6 ∨ (g : Int) = 7
  · rw [if_pos h6, if_pos h6]; exact decide_eq_true (by simp only; omega)
  · rw [if_neg h6, if_neg h6]
    simp only [Bool.and_eq_true, decide_eq_true_eq]
    omega
theorem lockAt_phi (s : Sd) {g : Nat} (hg : g < 8) : lockAt (phi f s) (g : Int) = fLk f (lockAt s (g : Int)) := by
  unfold lockAt fLk
  by_cases h6 : (g : Int) = 6 ∨ (g : Int) = 7
  · rw [if_pos h6, if_pos h6, if_pos (by simp only; omega)]; rfl
  · rw [if_neg h6, if_neg h6, if_neg (by simp only; omega)]; rfl
theorem Ren.moves (R : Ren m x f) {s : Sd} (hs : InM m s) (g : Int) : moves x (phi f s) g = (moves m s g).map (phi f) := by
  have V := valid_of R.vm
  unfold Go.Proofs.Ytgbfjcgjcnndpaa.moves
  by_cases h6 : g = 6
  · rw [if_pos h6, if_pos h6]
    show (if s.sp = 2 then _ else _) = _
    split <;> rfl
  · rw [if_neg h6, if_neg h6]
    by_cases h7 : g = 7
    · rw [if_pos h7, if_pos h7]
      show (if s.sp = 0 then _ else _) = _
      split <;> rfl
    · rw [if_neg h7, if_neg h7]
      unfold stepTo
      rw [R.steps, List.filter_map, List.map_map, List.map_map]
      have : (m.steps.filter ((fun x => decide (x.fr = (phi f s).st) && decide (x.sg = g)) ∘ fSp f)) = m.steps.filter fun x => decide (x.fr = s.st) && decide (x.sg = g) := by
        refine List.filter_congr fun y hy => ?_
        have hy := V.st y hy
        show (decide (f y.fr = f s.st) && decide (y.sg = g)) = _
        congr 1
        exact decide_eq_decide.2 ⟨fun e => R.inj _ _ hy.1 hy.2.1 hs.1 hs.2.1 e, fun e => by rw [e]⟩
      rw [this]
      rfl
theorem Ren.next (R : Ren m x f) {ls : List Lk} (hl : ∀ l ∈ ls, okLock m l = true) {s : Sd} (hs : InM m s) {g : Nat} (hg : g < 8) : nextL x (ls.map (fLk f)) (phi f s) (g : Int) = (nextL m ls s (g : Int)).map (phi f) := by
  unfold nextL
  rw [lockAt_phi s hg, R.moves hs]
  have : fLk f (lockAt s (g : Int)) ∈ ls.map (fLk f) ↔ lockAt s (g : Int) ∈ ls := by
    rw [List.mem_map]
    constructor
    · rintro ⟨l, h1, h2⟩
      rwa [← R.fLk_inj (hl l h1) (lockAt_ok (valid_of R.vm) hs hg) h2]
    · exact fun h => ⟨_, h, rfl⟩
  by_cases h : lockAt s (g : Int) ∈ ls
  · rw [if_pos h, if_pos (this.2 h)]; rfl
  · rw [if_neg h, if_neg fun h2 => h (this.1 h2)]
theorem Ren.rch (R : Ren m x f) {ls : List Lk} (hl : ∀ l ∈ ls, okLock m l = true) {s : Sd} (h : Rch m ls s) : Rch x (ls.map (fLk f)) (phi f s) := by
  have V := valid_of R.vm
  induction h with
  | zero =>
    have : phi f ⟨0, 0⟩ = ⟨0, 0⟩ := Sd.ext'.2 ⟨R.z, rfl⟩
    rw [this]; exact .zero
  | step h hst ih =>
    obtain ⟨g, hg, ht⟩ := hst
    exact .step ih ⟨g, hg, by rw [R.next hl (h.inM V) hg]; exact List.mem_map.2 ⟨_, ht, rfl⟩⟩
theorem Ren.hcr (R : Ren m x f) {ls : List Lk} (hl : ∀ l ∈ ls, okLock m l = true) {t : Sd} (h : Rch x (ls.map (fLk f)) t) : ∃ s, Rch m ls s ∧ t = phi f s := by
  have V := valid_of R.vm
  induction h with
  | zero => exact ⟨⟨0, 0⟩, .zero, Sd.ext'.2 ⟨R.z.symm, rfl⟩⟩
  | step _ hst ih =>
    obtain ⟨s, h1, rfl⟩ := ih
    obtain ⟨g, hg, ht⟩ := hst
    rw [R.next hl (h1.inM V) hg] at ht
    obtain ⟨u, h2, rfl⟩ := List.mem_map.1 ht
    exact ⟨u, .step h1 ⟨g, hg, h2⟩, rfl⟩
theorem Ren.rch_iff (R : Ren m x f) {ls : List Lk} (hl : ∀ l ∈ ls, okLock m l = true) {s : Sd} (hs : InM m s) : Rch x (ls.map (fLk f)) (phi f s) ↔ Rch m ls s := by
  refine ⟨fun h => ?_, R.rch hl⟩
  obtain ⟨u, h1, h2⟩ := R.hcr hl h
  rw [R.phi_inj hs (h1.inM (valid_of R.vm)) h2]; exact h1
theorem Ren.danger (R : Ren m x f) {s : Sd} (hs : InM m s) : dangerB x (phi f s) = dangerB m s := by
  unfold dangerB
  have : decide ((phi f s).st ∈ x.running) = decide (s.st ∈ m.running) := decide_eq_decide.2 (R.run _ hs.1 hs.2.1)
  rw [this]; rfl
theorem Ren.pth (R : Ren m x f) {n : Nat} {s : Sd} (h : Pth m m.locks (dangerB m) n s) (hs : InM m s) : Pth x x.locks (dangerB x) n (phi f s) := by
  have V := valid_of R.vm
  induction h with
  | zero h => exact .zero (by rw [R.danger hs]; exact h)
  | step hst _ ih =>
    obtain ⟨g, hg, ht⟩ := hst
    refine .step ⟨g, hg, ?_⟩ (ih (next_in V hs ht))
    rw [R.locks, R.next V.lk hs hg]
    exact List.mem_map.2 ⟨_, ht, rfl⟩
theorem Ren.htp (R : Ren m x f) {n : Nat} {t : Sd} (h : Pth x x.locks (dangerB x) n t) : ∀ s, InM m s → t = phi f s → Pth m m.locks (dangerB m) n s := by
  have V := valid_of R.vm
  induction h with
  | zero h => intro s hs e; subst e; exact .zero (by rw [← R.danger hs]; exact h)
  | step hst _ ih =>
    intro s hs e
    subst e
    obtain ⟨g, hg, ht⟩ := hst
    rw [R.locks, R.next V.lk hs hg] at ht
    obtain ⟨u, h2, h3⟩ := List.mem_map.1 ht
    exact .step ⟨g, hg, h2⟩ (ih u (next_in V hs h2) h3.symm)
theorem Ren.far (R : Ren m x f) : (dangRes m).1 = (dangRes x).1 ∧ (dangRes m).2.length = (dangRes x).2.length := by
  have V := valid_of R.vm
  have V' := valid_of R.vx
  have hz : (⟨0, 0⟩ : Sd) = phi f ⟨0, 0⟩ := Sd.ext'.2 ⟨R.z.symm, rfl⟩
  have h0 := zero_in V
  have hp : ∀ n, Pth x x.locks (dangerB x) n ⟨0, 0⟩ ↔ Pth m m.locks (dangerB m) n ⟨0, 0⟩ := fun n => ⟨fun h => R.htp h _ h0 hz, fun h => by rw [hz]; exact R.pth h h0⟩
  unfold dangRes
  rw [if_pos R.vm, if_pos R.vx]
  cases h1 : wayO m m.locks (dangerB m) with
  | none =>
    cases h2 : wayO x x.locks (dangerB x) with
    | none => exact ⟨rfl, rfl⟩
    | some l => exact absurd ((hp _).1 (wayO_yes V' h2).dist.1) (wayO_no V h1 _)
  | some k =>
    cases h2 : wayO x x.locks (dangerB x) with
    | none => exact absurd ((hp _).2 (wayO_yes V h1).dist.1) (wayO_no V' h2 _)
    | some l =>
      refine ⟨rfl, ?_⟩
      have d1 := (wayO_yes V h1).dist
      have d2 := (wayO_yes V' h2).dist
      exact d1.uniq (k := l.length) ⟨(hp _).1 d2.1, fun j hj => d2.2 j ((hp j).2 hj)⟩
theorem reach_nodup (m : Mc) (ls : List Lk) : (reachL m ls).Nodup := by
  obtain ⟨p, hp⟩ := levL_form m ls 24
  show (levL m ls 24).Nodup
  rw [hp]
  exact List.Pairwise.filter _ (by decide +kernel : all24.Nodup)
theorem nodup_map_on {α β : Type} {f : α → β} : ∀ {l : List α}, l.Nodup → (∀ a ∈ l, ∀ b ∈ l, f a = f b → a = b) → (l.map f).Nodup
  | [], _, _ => List.nodup_nil
  | a :: l, h, hf => by
    have h1 := List.nodup_cons.1 h
    rw [List.map_cons, List.nodup_cons]
    refine ⟨fun hm => ?_, nodup_map_on h1.2 fun a ha b hb => hf a (by simp [ha]) b (by simp [hb])⟩
    obtain ⟨b, hb, e⟩ := List.mem_map.1 hm
    have := hf b (by simp [hb]) a (by simp) e
    subst this
    exact h1.1 hb
theorem Ren.reach (R : Ren m x f) : (reachL m m.locks).length = (reachL x x.locks).length ∧ ∀ s ∈ reachL m m.locks, phi f s ∈ reachL x x.locks := by
  have V := valid_of R.vm
  have V' := valid_of R.vx
  have hf : ∀ s ∈ reachL m m.locks, phi f s ∈ reachL x x.locks := fun s hs => by
    rw [mem_reachL V', R.locks]; exact R.rch V.lk ((mem_reachL V).1 hs)
  have hnd : ((reachL m m.locks).map (phi f)).Nodup := nodup_map_on (reach_nodup _ _) fun a ha b hb => R.phi_inj (((mem_reachL V).1 ha).inM V) (((mem_reachL V).1 hb).inM V)
  refine ⟨Nat.le_antisymm ?_ ?_, hf⟩
  · rw [← List.length_map (f := phi f)]
    refine nodup_len hnd fun t ht => ?_
    obtain ⟨s, h1, rfl⟩ := List.mem_map.1 ht
    exact hf s h1
  · have h := nodup_len (l' := (reachL m m.locks).map (phi f)) (reach_nodup x x.locks) fun t ht => by
      rw [mem_reachL V', R.locks] at ht
      obtain ⟨s, h1, rfl⟩ := R.hcr V.lk ht
      exact List.mem_map.2 ⟨s, (mem_reachL V).2 h1, rfl⟩
    rwa [List.length_map] at h
set_option maxRecDepth 100000 in
theorem Ren.need (R : Ren m x f) {l : Lk} (h : needB m l = true) : needB x (fLk f l) = true := by
  have V := valid_of R.vm
  have V' := valid_of R.vx
  obtain ⟨s, h1, g, hg, h3, h4, t, h5, h6⟩ := needB_iff.1 h
  have hs := (mem_reachL V).1 h1
  have hi := hs.inM V
  refine needB_iff.2 ⟨phi f s, (mem_reachL V').2 (R.rch (ls := []) (fun _ h => by cases h) hs), g, hg, by rw [R.danger hi]; exact h3, by rw [lockAt_phi s hg, h4], phi f t, by rw [R.moves hi]; exact List.mem_map.2 ⟨t, h5, rfl⟩, by rw [R.danger (moves_in V hi h5)]; exact h6⟩
theorem Ren.need' (R : Ren m x f) {l' : Lk} (h : needB x l' = true) : ∃ l, needB m l = true ∧ l' = fLk f l := by
  have V := valid_of R.vm
  have V' := valid_of R.vx
  obtain ⟨t, h1, g, hg, h3, h4, u, h5, h6⟩ := needB_iff.1 h
  obtain ⟨s, hs, rfl⟩ := R.hcr (ls := []) (fun _ h => by cases h) ((mem_reachL V').1 h1)
  have hi := hs.inM V
  rw [R.moves hi] at h5
  obtain ⟨v, h7, rfl⟩ := List.mem_map.1 h5
  rw [R.danger hi] at h3
  rw [R.danger (moves_in V hi h7)] at h6
  exact ⟨lockAt s (g : Int), needB_iff.2 ⟨s, (mem_reachL V).2 hs, g, hg, h3, rfl, v, h7, h6⟩, by rw [← h4, lockAt_phi s hg]⟩
theorem Ren.serve (R : Ren m x f) : serveB x (dueL x) = serveB m (dueL m) := by
  have V := valid_of R.vm
  have V' := valid_of R.vx
  have hok : ∀ l ∈ dueL m, okLock m l = true := fun l hl => need_ok V ((mem_dueL V).1 hl)
  have hmem : ∀ l, l ∈ dueL x ↔ l ∈ (dueL m).map (fLk f) := fun l => by
    rw [mem_dueL V', List.mem_map]
    constructor
    · intro h
      obtain ⟨k, h1, rfl⟩ := R.need' h
      exact ⟨k, (mem_dueL V).2 h1, rfl⟩
    · rintro ⟨k, h1, rfl⟩
      exact R.need ((mem_dueL V).1 h1)
  have hr : ∀ t, Rch x (dueL x) t ↔ Rch x ((dueL m).map (fLk f)) t := fun t => ⟨rch_sub fun l hl => (hmem l).2 hl, rch_sub fun l hl => (hmem l).1 hl⟩
  rw [Bool.eq_iff_iff, serve_iff V, serve_iff V']
  constructor
  · intro h s hs
    have hi := hs.inM V
    have h1 := h (phi f s) (R.rch (ls := []) (fun _ h => by cases h) hs)
    rw [hr, R.rch_iff hok hi, R.danger hi] at h1
    exact h1
  · intro h t ht
    obtain ⟨s, hs, rfl⟩ := R.hcr (ls := []) (fun _ h => by cases h) ht
    have hi := hs.inM V
    rw [hr, R.rch_iff hok hi, R.danger hi]
    exact h s hs
theorem Ren.few (R : Ren m x f) : locksE m = locksE x ∧ (locksR m).length = (locksR x).length := by
  have V := valid_of R.vm
  have V' := valid_of R.vx
  cases h : serveB m (dueL m) with
  | false =>
    obtain ⟨a, b⟩ := locksR_f (m := m) (by rw [same_serve V]; exact h)
    obtain ⟨c, d⟩ := locksR_f (m := x) (by rw [same_serve V', R.serve]; exact h)
    rw [a, b, c, d]; exact ⟨rfl, rfl⟩
  | true =>
    obtain ⟨a, b⟩ := locksR_t (m := m) (by rw [same_serve V]; exact h)
    obtain ⟨c, d⟩ := locksR_t (m := x) (by rw [same_serve V', R.serve]; exact h)
    rw [a, b, c, d]
    refine ⟨rfl, Nat.le_antisymm ?_ ?_⟩
    · rw [← List.length_map (f := fLk f)]
      refine nodup_len (nodup_map_on (sorted_nodup (dueL_sorted m)) fun a ha b hb => R.fLk_inj (need_ok V ((mem_dueL V).1 ha)) (need_ok V ((mem_dueL V).1 hb))) fun l hl => ?_
      obtain ⟨k, h1, rfl⟩ := List.mem_map.1 hl
      exact (mem_dueL V').2 (R.need ((mem_dueL V).1 h1))
    · have h := nodup_len (l' := (dueL m).map (fLk f)) (sorted_nodup (dueL_sorted x)) fun l hl => by
        obtain ⟨k, h1, rfl⟩ := R.need' ((mem_dueL V').1 hl)
        exact List.mem_map.2 ⟨k, (mem_dueL V).2 h1, rfl⟩
      rwa [List.length_map] at h
end
/-! The machine that is turned. -/
def nmF (n by_ s : Int) : Int := if s ≤ 0 then 0 else 1 + (s - 1 + by_).tmod (n - 1)
theorem nmF_in {n b s : Int} (hn : 2 ≤ n) (hb : 0 ≤ b) (h0 : 0 ≤ s) : 0 ≤ nmF n b s ∧ nmF n b s < n := by
  unfold nmF
  split
  · omega
  · rw [Int.tmod_eq_emod_of_nonneg (by omega)]
    have h1 := Int.emod_nonneg (s - 1 + b) (show n - 1 ≠ 0 by omega)
    have h2 := Int.emod_lt_of_pos (s - 1 + b) (show 0 < n - 1 by omega)
    omega
set_option maxRecDepth 100000 in
theorem nmF_inj {n b s t : Int} (hn : 2 ≤ n) (hn8 : n ≤ 8) (hb : 0 ≤ b) (h0 : 0 ≤ s) (h1 : s < n) (h2 : 0 ≤ t) (h3 : t < n) (e : nmF n b s = nmF n b t) : s = t := by
  unfold nmF at e
  by_cases hs : s ≤ 0
  · by_cases ht : t ≤ 0
    · omega
    · rw [if_pos hs, if_neg ht, Int.tmod_eq_emod_of_nonneg (by omega)] at e
      have := Int.emod_nonneg (t - 1 + b) (show n - 1 ≠ 0 by omega)
      omega
  · by_cases ht : t ≤ 0
    · rw [if_neg hs, if_pos ht, Int.tmod_eq_emod_of_nonneg (by omega)] at e
      have := Int.emod_nonneg (s - 1 + b) (show n - 1 ≠ 0 by omega)
      omega
    · rw [if_neg hs, if_neg ht, Int.tmod_eq_emod_of_nonneg (by omega), Int.tmod_eq_emod_of_nonneg (by omega)] at e
      have : n = 2 ∨ n = 3 ∨ n = 4 ∨ n = 5 ∨ n = 6 ∨ n = 7 ∨ n = 8 := by omega
      rcases this with rfl | rfl | rfl | rfl | rfl | rfl | rfl <;> omega
def renR (m : Mc) (f : Int → Int) (n : Nat) : List Int := ((List.range n).filter fun st : Nat => (List.range m.states.toNat).any fun old : Nat => decide (f (old : Int) = (st : Int)) && decide ((old : Int) ∈ m.running)).map fun i : Nat => (i : Int)
abbrev renM (m : Mc) (f : Int → Int) : Mc := ⟨m.states, m.steps.map (fSp f), renR m f m.states.toNat, m.locks.map (fLk f)⟩
theorem rising_pair : ∀ {l : List Int}, l.Pairwise (· < ·) → rising l = true
  | [], _ => rfl
  | [_], _ => rfl
  | a :: b :: r, h => by
    have h1 := List.pairwise_cons.1 h
    rw [rising, rising_pair h1.2, Bool.and_true]
    exact decide_eq_true (h1.1 b (by simp))
theorem ren_of {m : Mc} (he : fault m = 0) (h2 : 2 ≤ m.states) {b : Int} (hb : 0 ≤ b) : Ren m (renM m (nmF m.states b)) (nmF m.states b) := by
  have V := valid_of he
  have s2 := V.s2
  have hF := fault_iff.1 he
  have hin : ∀ s, 0 ≤ s → 0 ≤ nmF m.states b s ∧ nmF m.states b s < m.states := fun s h => nmF_in h2 hb h
  refine ⟨he, fault_iff.2 ⟨by simpa using hF.ns, by simpa using hF.nl, hF.s, fun y hy => ?_, fun n hn => ?_, fun l hl => ?_, ?_⟩, rfl, fun s t a c d e => nmF_inj h2 s2 hb a c d e, rfl, rfl, fun s h0 h1 => ?_, rfl⟩
  · obtain ⟨z, hz, rfl⟩ := List.mem_map.1 hy
    have := V.st z hz
    have p1 := hin z.fr this.1
    have p2 := hin z.to_ this.2.2.1
    unfold okStep inI fSp
    simp only [Bool.and_eq_true, decide_eq_true_eq]
    omega
  · obtain ⟨i, hi, rfl⟩ := List.mem_map.1 hn
    have := List.mem_range.1 (List.mem_filter.1 hi).1
    show 0 ≤ (i : Int) ∧ (i : Int) ≤ m.states - 1
    omega
  · obtain ⟨z, hz, rfl⟩ := List.mem_map.1 hl
    have hz := V.lk z hz
    unfold okLock inI at hz ⊢
    unfold fLk
    by_cases h5 : 5 < z.sg
    · rw [if_pos h5]
      split at hz
      · rename_i h6
        have hz := of_decide_eq_true hz
        have := hin z.at_ hz.1
        rw [if_pos h6]
        exact decide_eq_true (by simp only; omega)
      · simp only [Bool.and_eq_true, decide_eq_true_eq] at hz; omega
    · rw [if_neg h5]; exact hz
  · refine rising_pair ?_
    show (renR m _ _).Pairwise _
    unfold renR
    rw [List.pairwise_map]
    exact (List.pairwise_lt_range.filter _).imp fun {a b} h => by omega
  · show _ ∈ renR m _ _ ↔ _
    have hb1 := hin s h0
    unfold renR
    simp only [List.mem_map, List.mem_filter, List.mem_range, List.any_eq_true, Bool.and_eq_true, decide_eq_true_eq]
    constructor
    · rintro ⟨i, ⟨h3, old, h4, h5, h6⟩, h7⟩
      have := nmF_inj h2 s2 hb h0 h1 (by omega) (by omega) (h7.symm.trans h5.symm)
      rw [this]; exact h6
    · intro h
      exact ⟨(nmF m.states b s).toNat, ⟨by omega, s.toNat, by omega, by rw [show ((s.toNat : Nat) : Int) = s by omega]; omega, by rw [show ((s.toNat : Nat) : Int) = s by omega]; exact h⟩, by omega⟩
end Go.Proofs.Ytgbfjcgjcnndpaa
