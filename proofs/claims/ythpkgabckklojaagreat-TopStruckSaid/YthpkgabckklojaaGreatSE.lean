/- Own texts, laid together: X11 X12. Nothing is asked. -/
import Derived.Test.YthpkgabckklojaaGreatSD
import Derived.Test.YthpkgabckklojaaGreatS3
set_option linter.unusedSimpArgs false
set_option linter.unusedVariables false
/- Path: truths of a ball (plain). -/
namespace Go.Proofs.YthpkgabckklojaaGreat

/-- A ball that has n rows still to go rolls so: by these turns, over these states, into the gutter or not. -/
inductive Truth (l : La) : Nat → Int → St → List Int → List St → Bool → Prop
  | last {row : Int} {s : St} : onL l s = true → Truth l 0 row s [] [s] false
  | off {n : Nat} {row : Int} {s : St} {t : Int} : onL l s = true → inR t (hookOf l row s.b) = true → onL l (nextS s t) = false → Truth l (n + 1) row s [t] [s] true
  | on {n : Nat} {row : Int} {s : St} {t : Int} {ts : List Int} {over : List St} {g : Bool} : onL l s = true → inR t (hookOf l row s.b) = true → Truth l n (row + 1) (nextS s t) ts over g → Truth l (n + 1) row s (t :: ts) (s :: over) g
theorem Truth.start {l : La} {n : Nat} {row : Int} {s : St} {ts : List Int} {over : List St} {g : Bool} (h : Truth l n row s ts over g) : onL l s = true := by cases h <;> assumption
theorem Truth.ne {l : La} {n : Nat} {row : Int} {s : St} {ts : List Int} {over : List St} {g : Bool} (h : Truth l n row s ts over g) : over ≠ [] := by cases h <;> simp
theorem Truth.len {l : La} {n : Nat} {row : Int} {s : St} {ts : List Int} {over : List St} {g : Bool} (h : Truth l n row s ts over g) : 1 ≤ over.length ∧ (g = false → over.length = n + 1) ∧ (g = true → over.length ≤ n) ∧ ts.length ≤ n := by
  induction h with
  | last _ => simp
  | off _ _ _ => simp
  | on _ _ _ ih =>
    obtain ⟨h1, h2, h3, h4⟩ := ih
    refine ⟨by simp, fun e => ?_, fun e => ?_, ?_⟩
    · simp [h2 e]
    · have := h3 e; simp; omega
    · simp; omega
theorem Truth.play {l : La} {n : Nat} {row : Int} {s : St} {ts : List Int} {over : List St} {g : Bool} (h : Truth l n row s ts over g) : ∀ out : List St, (out.length : Int) = row → row + n = l.rows - 1 → playR l (out ++ [s]) s ts = (out ++ over, g, true) := by
  induction h with
  | last _ =>
    intro out h1 h2
    rw [playR_nil]
    simp only [Prod.mk.injEq, true_and, decide_eq_true_eq]; simp; omega
  | off h1 h2 h3 =>
    intro out h4 h5
    rw [playR_off [] (by simp; omega) (by simpa [h4] using h2) h3]
    rfl
  | @on n row s t ts over g h1 h2 h3 ih =>
    intro out h4 h5
    rw [playR_on _ (by simp; omega) (by simpa [h4] using h2) h3.start]
    have := ih (out ++ [s]) (by simp [h4]) (by omega)
    rw [this]; simp
theorem Truth.playV {l : La} (V : Valid l) {s : St} {ts : List Int} {over : List St} {g : Bool} (h : Truth l (nR l) 0 s ts over g) : playV l s ts = (over, g, true) := by
  have r1 := V.r1
  have := h.play [] rfl (by unfold nR; omega)
  simpa [Go.Proofs.YthpkgabckklojaaGreat.playV] using this
theorem canN_off {l : La} {en : Bool → St → Bool} {s : St} (h : onL l s = false) (n : Nat) (row : Int) : canN l en n row s = en false s := by
  cases n <;> simp [canN, h]
theorem mem_step {l : La} {row : Int} {s : St} {t : Int} (h : inR t (hookOf l row s.b) = true) : nextS s t ∈ stepsOf l row s := by
  rw [mem_steps]
  simp only [inR, decide_eq_true_eq] at h
  exact ⟨t, h.1, h.2, rfl⟩
theorem step_mem {l : La} {row : Int} {s x : St} (h : x ∈ stepsOf l row s) : ∃ t, inR t (hookOf l row s.b) = true ∧ x = nextS s t := by
  rw [mem_steps] at h
  obtain ⟨t, h1, h2, h3⟩ := h
  exact ⟨t, by simp [inR, h1, h2], h3⟩
theorem Truth.can {l : La} {n : Nat} {row : Int} {s : St} {ts : List Int} {over : List St} {g : Bool} (h : Truth l n row s ts over g) (en : Bool → St → Bool) (hg : g = true → ∀ x, en false x = true) (hl : g = false → ∀ x, over.getLast? = some x → en true x = true) : canN l en n row s = true := by
  induction h with
  | last h1 => simp only [canN, h1]; exact hl rfl _ rfl
  | off h1 h2 h3 =>
    simp only [canN, h1, if_true, List.any_eq_true]
    exact ⟨_, mem_step h2, by rw [canN_off h3]; exact hg rfl _⟩
  | on h1 h2 h3 ih =>
    simp only [canN, h1, if_true, List.any_eq_true]
    refine ⟨_, mem_step h2, ih hg fun e x hx => hl e x ?_⟩
    rw [List.getLast?_cons, hx]; rfl
theorem can_truth {l : La} (en : Bool → St → Bool) : ∀ (n : Nat) (row : Int) (s : St), onL l s = true → canN l en n row s = true → ∃ ts over g, Truth l n row s ts over g ∧ (g = true → ∃ x, en false x = true) ∧ (g = false → ∃ x, over.getLast? = some x ∧ en true x = true)
  | 0, row, s, h1, h2 => ⟨[], [s], false, .last h1, (fun e => by cases e), fun _ => ⟨s, rfl, by simpa [canN, h1] using h2⟩⟩
  | n + 1, row, s, h1, h2 => by
    simp only [canN, h1, if_true, List.any_eq_true] at h2
    obtain ⟨x, hx, hc⟩ := h2
    obtain ⟨t, ht, rfl⟩ := step_mem hx
    cases hon : onL l (nextS s t)
    · rw [canN_off hon] at hc
      exact ⟨[t], [s], true, .off h1 ht hon, fun _ => ⟨_, hc⟩, fun e => by cases e⟩
    · obtain ⟨ts, over, g, hT, ha, hb⟩ := can_truth en n (row + 1) _ hon hc
      refine ⟨t :: ts, s :: over, g, .on h1 ht hT, ha, fun e => ?_⟩
      obtain ⟨x, hx, hy⟩ := hb e
      exact ⟨x, by rw [List.getLast?_cons, hx]; rfl, hy⟩
theorem hook_in {l : La} (V : Valid l) (row b : Int) : inR (hookOf l row b).lo (hookOf l row b) = true := by
  have := hookOf_bd V row b
  simp [inR]; omega
/-- From each state on the ball has a truth. -/
theorem has_truth {l : La} (V : Valid l) : ∀ (n : Nat) (row : Int) (s : St), onL l s = true → ∃ ts over g, Truth l n row s ts over g
  | 0, row, s, h => ⟨_, _, _, .last h⟩
  | n + 1, row, s, h => by
    have hi := hook_in V row s.b
    cases hon : onL l (nextS s (hookOf l row s.b).lo)
    · exact ⟨_, _, _, .off h hi hon⟩
    · obtain ⟨ts, over, g, hT⟩ := has_truth V n (row + 1) _ hon
      exact ⟨_, _, _, .on h hi hT⟩

/-- The greatest board. -/
def maxB (xs : List St) : Int := xs.foldl (fun n x => max n x.b) 0
theorem foldl_max (xs : List St) : ∀ m : Int, xs.foldl (fun n x => max n x.b) m = max m (xs.foldl (fun n x => max n x.b) m) ∧ ∀ m2 : Int, xs.foldl (fun n x => max n x.b) (max m m2) = max m (xs.foldl (fun n x => max n x.b) m2) := by
  induction xs with
  | nil => intro m; exact ⟨by simp, fun _ => rfl⟩
  | cons x xs ih =>
    intro m
    simp only [List.foldl_cons]
    refine ⟨?_, fun m2 => ?_⟩
    · have := (ih m).2 x.b; omega
    · rw [Int.max_assoc]; exact (ih m).2 _
theorem maxB_nonneg (xs : List St) : 0 ≤ maxB xs := by
  have := (foldl_max xs 0).1
  unfold maxB; omega
theorem maxB_cons (x : St) (xs : List St) (h : 0 ≤ x.b) : maxB (x :: xs) = max x.b (maxB xs) := by
  have h1 := (foldl_max xs x.b).2 0
  unfold maxB
  rw [List.foldl_cons, ← h1, Int.max_comm]
theorem maxB_one (x : St) (h : 0 ≤ x.b) : maxB [x] = x.b := by simp [maxB]; omega
theorem widen_fold (rs : List Rg) : ∀ o : Rg, (rs.foldl widen o).lo ≤ o.lo ∧ o.hi ≤ (rs.foldl widen o).hi ∧ (∀ r ∈ rs, (rs.foldl widen o).lo ≤ r.lo ∧ r.hi ≤ (rs.foldl widen o).hi) ∧
    ((rs.foldl widen o).lo = o.lo ∨ ∃ r ∈ rs, (rs.foldl widen o).lo = r.lo) ∧ ((rs.foldl widen o).hi = o.hi ∨ ∃ r ∈ rs, (rs.foldl widen o).hi = r.hi) := by
  induction rs with
  | nil => intro o; simp
  | cons r rs ih =>
    intro o
    obtain ⟨h1, h2, h3, h4, h5⟩ := ih (widen o r)
    simp only [List.foldl_cons]
    have e1 : (widen o r).lo = min o.lo r.lo := rfl
    have e2 : (widen o r).hi = max o.hi r.hi := rfl
    refine ⟨by omega, by omega, fun x hx => ?_, ?_, ?_⟩
    · rcases List.mem_cons.1 hx with rfl | hx
      · omega
      · exact h3 x hx
    · rcases h4 with h4 | ⟨x, hx, h4⟩
      · rcases Int.le_total o.lo r.lo with h | h
        · exact .inl (by omega)
        · exact .inr ⟨r, by simp, by omega⟩
      · exact .inr ⟨x, by simp [hx], h4⟩
    · rcases h5 with h5 | ⟨x, hx, h5⟩
      · rcases Int.le_total o.hi r.hi with h | h
        · exact .inr ⟨r, by simp, by omega⟩
        · exact .inl (by omega)
      · exact .inr ⟨x, by simp [hx], h5⟩
theorem on_b {l : La} {s : St} (h : onL l s = true) : 1 ≤ s.b ∧ s.b ≤ l.boards := by simpa [onL] using h
theorem turnN_off {l : La} {s : St} (h : onL l s = false) (n : Nat) (row : Int) : turnN l n row s = ⟨0, 0⟩ := by cases n <;> simp [turnN, h]
theorem turnN_on {l : La} {s : St} (h : onL l s = true) (n : Nat) (row : Int) : turnN l (n + 1) row s = ⟨max (((stepsOf l row s).map (turnN l n (row + 1))).foldl widen ⟨40, 0⟩).lo s.b, max (((stepsOf l row s).map (turnN l n (row + 1))).foldl widen ⟨40, 0⟩).hi s.b⟩ := by simp [turnN, h]
theorem Truth.turn {l : La} {n : Nat} {row : Int} {s : St} {ts : List Int} {over : List St} {g : Bool} (h : Truth l n row s ts over g) : (turnN l n row s).lo ≤ maxB over ∧ maxB over ≤ (turnN l n row s).hi := by
  induction h with
  | last h1 =>
    have := on_b h1
    rw [maxB_one _ (by omega)]
    simp [turnN, h1]
  | @off n row s t h1 h2 h3 =>
    have := on_b h1
    obtain ⟨_, _, w3, _, _⟩ := widen_fold ((stepsOf l row s).map (turnN l n (row + 1))) ⟨40, 0⟩
    obtain ⟨w4, w5⟩ := w3 _ (List.mem_map.2 ⟨_, mem_step h2, rfl⟩)
    rw [turnN_off h3] at w4 w5
    rw [maxB_one _ (by omega), turnN_on h1]
    simp only at w4 w5 ⊢
    omega
  | @on n row s t ts over g h1 h2 h3 ih =>
    have := on_b h1
    obtain ⟨_, _, w3, _, _⟩ := widen_fold ((stepsOf l row s).map (turnN l n (row + 1))) ⟨40, 0⟩
    obtain ⟨w4, w5⟩ := w3 _ (List.mem_map.2 ⟨_, mem_step h2, rfl⟩)
    rw [maxB_cons _ _ (by omega), turnN_on h1]
    simp only
    omega
/-- Both ends of the range are had. -/
theorem turn_truth {l : La} (V : Valid l) : ∀ (n : Nat) (row : Int) (s : St), onL l s = true → (∃ ts over g, Truth l n row s ts over g ∧ maxB over = (turnN l n row s).lo) ∧ (∃ ts over g, Truth l n row s ts over g ∧ maxB over = (turnN l n row s).hi)
  | 0, row, s, h => by
    have := on_b h
    have e : turnN l 0 row s = ⟨s.b, s.b⟩ := by simp [turnN, h]
    rw [e]
    exact ⟨⟨_, _, _, .last h, maxB_one _ (by omega)⟩, ⟨_, _, _, .last h, maxB_one _ (by omega)⟩⟩
  | n + 1, row, s, h => by
    have hb := on_b h
    have b2 := V.b2
    obtain ⟨w1, w2, w3, w4, w5⟩ := widen_fold ((stepsOf l row s).map (turnN l n (row + 1))) ⟨40, 0⟩
    have hi := hook_in V row s.b
    have hm := mem_step (l := l) (row := row) (s := s) hi
    rw [turnN_on h]
    simp only at w1 w2 w4 w5 ⊢
    -- one step, that has this end
    have key : ∀ (x : St), x ∈ stepsOf l row s → (∃ ts over g, Truth l (n + 1) row s ts over g ∧ maxB over = max s.b (turnN l n (row + 1) x).lo) ∧ (∃ ts over g, Truth l (n + 1) row s ts over g ∧ maxB over = max s.b (turnN l n (row + 1) x).hi) := by
      intro x hx
      obtain ⟨t, ht, rfl⟩ := step_mem hx
      cases hon : onL l (nextS s t)
      · rw [turnN_off hon]
        have e : max s.b 0 = s.b := by omega
        rw [e]
        exact ⟨⟨_, _, _, .off h ht hon, maxB_one _ (by omega)⟩, ⟨_, _, _, .off h ht hon, maxB_one _ (by omega)⟩⟩
      · obtain ⟨⟨ts, over, g, hT, he⟩, ⟨ts2, over2, g2, hT2, he2⟩⟩ := turn_truth V n (row + 1) _ hon
        exact ⟨⟨_, _, _, .on h ht hT, by rw [maxB_cons _ _ (by omega), he]⟩, ⟨_, _, _, .on h ht hT2, by rw [maxB_cons _ _ (by omega), he2]⟩⟩
    have bd : ∀ x, x ∈ stepsOf l row s → (turnN l n (row + 1) x).lo ≤ 40 ∧ 0 ≤ (turnN l n (row + 1) x).hi := by
      intro x hx
      cases hon : onL l x
      · rw [turnN_off hon]; simp
      · obtain ⟨⟨ts, over, g, hT, he⟩, ⟨ts2, over2, g2, hT2, he2⟩⟩ := turn_truth V n (row + 1) _ hon
        refine ⟨?_, ?_⟩
        · rw [← he]
          have key2 : ∀ xs : List St, (∀ x ∈ xs, x.b ≤ 40) → maxB xs ≤ 40 := by
            intro xs
            have : ∀ m : Int, m ≤ 40 → (∀ x ∈ xs, x.b ≤ 40) → xs.foldl (fun n x => max n x.b) m ≤ 40 := by
              induction xs with
              | nil => intro m hm _; exact hm
              | cons y ys ih =>
                intro m hm hy
                rw [List.foldl_cons]
                exact ih _ (by have := hy y (by simp); omega) (fun x hx => hy x (by simp [hx]))
            exact this 0 (by omega)
          refine key2 _ fun y hy => ?_
          have allon : ∀ {n : Nat} {row : Int} {s : St} {ts : List Int} {over : List St} {g : Bool}, Truth l n row s ts over g → ∀ y ∈ over, onL l y = true := by
            intro n row s ts over g hT
            induction hT with
            | last h => intro y hy; rw [List.mem_singleton.1 hy]; exact h
            | off h _ _ => intro y hy; rw [List.mem_singleton.1 hy]; exact h
            | on h _ _ ih => intro y hy; rcases List.mem_cons.1 hy with rfl | hy; exact h; exact ih y hy
          have := on_b (allon hT y hy)
          omega
        · rw [← he2]; exact maxB_nonneg _
    refine ⟨?_, ?_⟩
    · rcases w4 with w4 | ⟨r, hr, w4⟩
      · have hx := w3 _ (List.mem_map.2 ⟨_, hm, rfl⟩)
        have hy := bd _ hm
        obtain ⟨ts, over, g, hT, he⟩ := (key _ hm).1
        exact ⟨ts, over, g, hT, by rw [he]; omega⟩
      · obtain ⟨x, hx, rfl⟩ := List.mem_map.1 hr
        obtain ⟨ts, over, g, hT, he⟩ := (key _ hx).1
        exact ⟨ts, over, g, hT, by rw [he, w4, Int.max_comm]⟩
    · rcases w5 with w5 | ⟨r, hr, w5⟩
      · have hx := w3 _ (List.mem_map.2 ⟨_, hm, rfl⟩)
        have hy := bd _ hm
        obtain ⟨ts, over, g, hT, he⟩ := (key _ hm).2
        exact ⟨ts, over, g, hT, by rw [he]; omega⟩
      · obtain ⟨x, hx, rfl⟩ := List.mem_map.1 hr
        obtain ⟨ts, over, g, hT, he⟩ := (key _ hx).2
        exact ⟨ts, over, g, hT, by rw [he, w5, Int.max_comm]⟩
theorem Truth.allon {l : La} {n : Nat} {row : Int} {s : St} {ts : List Int} {over : List St} {g : Bool} (h : Truth l n row s ts over g) : ∀ y ∈ over, onL l y = true := by
  induction h with
  | last h => intro y hy; rw [List.mem_singleton.1 hy]; exact h
  | off h _ _ => intro y hy; rw [List.mem_singleton.1 hy]; exact h
  | on h _ _ ih =>
    intro y hy
    rcases List.mem_cons.1 hy with rfl | hy
    · exact h
    · exact ih y hy
/-- Its states are reached in their rows. -/
theorem Truth.rch {l : La} {s0 : St} {n : Nat} {row : Int} {s : St} {ts : List Int} {over : List St} {g : Bool} (h : Truth l n row s ts over g) : ∀ k : Nat, (k : Int) = row → Rch l s0 k s → ∀ (i : Nat) (x : St), over[i]? = some x → Rch l s0 (k + i) x := by
  induction h with
  | last h1 =>
    intro k _ hr i x hx
    cases i with
    | zero => simp at hx; subst hx; exact hr
    | succ i => simp at hx
  | off h1 _ _ =>
    intro k _ hr i x hx
    cases i with
    | zero => simp at hx; subst hx; exact hr
    | succ i => simp at hx
  | on h1 h2 h3 ih =>
    intro k hk hr i x hx
    cases i with
    | zero => simp at hx; subst hx; exact hr
    | succ i =>
      have := ih (k + 1) (by omega) ⟨h3.start, _, hr, by rw [hk]; exact mem_step h2⟩ i x (by simpa using hx)
      rwa [show k + (i + 1) = k + 1 + i by omega]
theorem Truth.gut {l : La} {s0 : St} {n : Nat} {row : Int} {s : St} {ts : List Int} {over : List St} {g : Bool} (h : Truth l n row s ts over g) : ∀ k : Nat, (k : Int) = row → Rch l s0 k s → g = true → Gut l s0 (k + over.length - 1) := by
  induction h with
  | last h1 => intro k _ _ e; cases e
  | off h1 h2 h3 =>
    intro k hk hr _
    simp only [List.length_singleton, Nat.add_sub_cancel]
    exact ⟨_, hr, _, by rw [hk]; exact mem_step h2, h3⟩
  | @on n row s t ts over g h1 h2 h3 ih =>
    intro k hk hr e
    have := ih (k + 1) (by omega) ⟨h3.start, _, hr, by rw [hk]; exact mem_step h2⟩ e
    simp only [List.length_cons]
    exact (show k + 1 + over.length - 1 = k + (over.length + 1) - 1 by omega) ▸ this
/-- A truth from a state that is reached is one from the beginning. -/
theorem rch_truth {l : La} {s0 : St} (h0 : onL l s0 = true) : ∀ (k n : Nat) (t : St) (ts : List Int) (over : List St) (g : Bool), Rch l s0 k t → Truth l n k t ts over g → ∃ ts' pre, pre.length = k ∧ Truth l (n + k) 0 s0 ts' (pre ++ over) g
  | 0, n, t, ts, over, g, hr, hT => by cases hr; exact ⟨ts, [], rfl, hT⟩
  | k + 1, n, t, ts, over, g, ⟨_, s, hr, hx⟩, hT => by
    obtain ⟨u, hu, rfl⟩ := step_mem hx
    obtain ⟨ts', pre, h1, h2⟩ := rch_truth h0 k (n + 1) s (u :: ts) (s :: over) g hr (.on (Rch.on h0 hr) hu (by exact_mod_cast hT))
    exact ⟨ts', pre ++ [s], by simp [h1], by rw [show n + (k + 1) = n + 1 + k by omega]; simpa using h2⟩
theorem gut_truth {l : La} {s0 : St} (h0 : onL l s0 = true) (k n : Nat) (h : Gut l s0 k) : ∃ ts over, over.length = k + 1 ∧ Truth l (n + 1 + k) 0 s0 ts over true := by
  obtain ⟨s, hr, x, hx, hoff⟩ := h
  obtain ⟨u, hu, rfl⟩ := step_mem hx
  obtain ⟨ts', pre, h1, h2⟩ := rch_truth h0 k (n + 1) s [u] [s] true hr (.off (Rch.on h0 hr) hu hoff)
  exact ⟨ts', pre ++ [s], by simp [h1], h2⟩
/-- Whether it hits. -/
def hitB (p : Pk) (over : List St) (g : Bool) : Bool := !g && (match over.getLast? with | some x => inR x.b p.boards && inR x.d p.dirs | none => false)
theorem Truth.hits {l : La} {s : St} {ts : List Int} {over : List St} {g : Bool} (h : Truth l (nR l) 0 s ts over g) (p : Pk) : (hitsV l s p = 2 → hitB p over g = true) ∧ (hitsV l s p = 0 → hitB p over g = false) := by
  have hm : hitB p over g = false → canN l (enM p) (nR l) 0 s = true := fun hb => h.can _ (fun _ x => by simp [enM, hitsP]) fun e x hx => by
    subst e
    simp only [hitB, hx, Bool.not_false, Bool.true_and] at hb
    simp only [enM, hitsP, Bool.true_and, hb, Bool.not_false]
  have hh : hitB p over g = true → canN l (hitsP p) (nR l) 0 s = true := fun hb => h.can _ (fun e x => by subst e; simp [hitB] at hb) fun e x hx => by
    subst e
    simp only [hitB, hx, Bool.not_false, Bool.true_and] at hb
    simpa only [hitsP, Bool.true_and] using hb
  unfold hitsV
  constructor
  · intro e
    cases hb : hitB p over g
    · rw [hm hb, if_pos rfl] at e; split at e <;> simp at e
    · rfl
  · intro e
    cases hb : hitB p over g
    · rfl
    · rw [hh hb, if_pos rfl] at e; split at e <;> simp at e
end Go.Proofs.YthpkgabckklojaaGreat

/- Path: word, Picked; Play, Reach and the others by a truth. -/
namespace Go.Proofs.YthpkgabckklojaaGreat
open Go.RowKit Go.Shelf

def encU (n : Int) : List Value := [.int .u16 n]
instance : Rec encU 1 := ⟨fun _ => rfl, by decide⟩
/-- One of some words; 0, if there is none. -/
def wordV (ws : List Int) (n : Nat) : Int := if h : 0 < ws.length then ws[n % ws.length]'(Nat.mod_lt _ h) else 0
def wordsOk (ws : List Int) : Prop := ∀ x ∈ ws, 0 ≤ x ∧ x ≤ 65535
theorem wordV_bd {ws : List Int} (h : wordsOk ws) (n : Nat) : 0 ≤ wordV ws n ∧ wordV ws n ≤ 65535 := by
  unfold wordV
  split
  · exact h _ (List.getElem_mem _)
  · omega
theorem lword_j (ws : List Int) (n : Nat) (a : Option Addr) (cap : Nat) (h : wordsOk ws) : Cv Tryz.prog 51 [.slice a ws.length cap, I n] (KSl a ws.length cap encU ws) (I (wordV ws n)) := by
  refine Cx_of Tryz.func51 rfl Tryz.ntmps51 rfl fun w0 M0 => ?_
  refine JC_seq ?_
  refine JC_region ?_
  refine JL_pd rfl (det_assign rfl) ?_
  refine JL_nil ?_
  refine JE_seq ?_
  refine JC_seq ?_
  refine JC_seq ?_
  refine JC_region ?_
  refine JL_pd rfl (det_move rfl) ?_
  refine JL_pd rfl (det_len rfl Tryz.runUnderlying32) ?_
  refine JL_pd rfl (det_eql rfl rfl) ?_
  refine JL_nil ?_
  refine JE_seq ?_
  -- stop: cond
  refine JC_if rfl (fun h1 => ?_) (fun h1 => ?_)
  · refine JC_seq ?_
    refine JC_region ?_
    refine JL_pd rfl (det_assign rfl) ?_
    refine JL_nil ?_
    refine JE_seq ?_
    refine JC_ret ?_
    refine JE_seq_ret ?_
    -- stop: out
    refine JE_out (.inl rfl) () (results1 Tryz.results51 (res_tmp rfl)) (by unfold wordV; rw [dif_neg (by omega)]) (List.Perm.refl _) (fun _ _ => trivial)
  · have hpos : 0 < ws.length := by omega
    have hlt : n % ws.length < ws.length := Nat.mod_lt _ hpos
    have hm : ((n : Int).tmod (ws.length : Int)) = ((n % ws.length : Nat) : Int) := by rw [Int.tmod_eq_emod_of_nonneg (by omega)]; rfl
    have hb := h _ (List.getElem_mem hlt)
    have e : wordV ws n = ws[n % ws.length] := by unfold wordV; rw [dif_pos hpos]
    refine JC_skip ?_
    refine JE_seq ?_
    refine JC_seq ?_
    refine JC_region ?_
    refine JL_pd rfl (det_move rfl) ?_
    refine JL_pd rfl (det_move rfl) ?_
    refine JL_pd rfl (det_move rfl) ?_
    refine JL_pd rfl (det_len rfl Tryz.runUnderlying32) ?_
    refine JL_pd rfl (det_rem rfl rfl (by omega)) ?_
    -- stop: op  5 t13 := (indexAddr 32 t8 t12)   <0 4>   41
    rw [hm]
    refine JL_dt rfl (det_indexAddr (i := n % ws.length) rfl rfl rfl hlt Tryz.runUnderlying32 Tryz.sizeOf133) ?_
    refine JL_dt rfl (det_loadE rfl (by first | assumption | omega | decide) Tryz.isAgg133 rfl rfl) ?_
    refine JL_pd rfl (det_convI rfl Tryz.runUnderlying133 Tryz.runUnderlying3 (i64_wrap ⟨by omega, by omega⟩)) ?_
    refine JL_pd rfl (det_assign rfl) ?_
    refine JL_nil ?_
    refine JE_seq ?_
    refine JC_ret ?_
    -- stop: out
    refine JE_out (.inl rfl) () (results1 Tryz.results51 (res_tmp rfl)) (by rw [e]) (List.Perm.refl _) (fun _ _ => trivial)
/-- A truth of a ball, by words: n rows before the last one. -/
def pickL (l : La) (ws : List Int) : Nat → Nat → St → List Int
  | 0, _, _ => []
  | n + 1, row, s => if onL l s = true then
      ((hookOf l row s.b).lo + (wordV ws row).tmod ((hookOf l row s.b).hi - (hookOf l row s.b).lo + 1)) :: pickL l ws n (row + 1) (nextS s ((hookOf l row s.b).lo + (wordV ws row).tmod ((hookOf l row s.b).hi - (hookOf l row s.b).lo + 1))) else []
theorem pick_in {l : La} (V : Valid l) {ws : List Int} (h : wordsOk ws) (row : Nat) (s : St) : inR ((hookOf l row s.b).lo + (wordV ws row).tmod ((hookOf l row s.b).hi - (hookOf l row s.b).lo + 1)) (hookOf l row s.b) = true := by
  have h1 := hookOf_bd V row s.b
  have h2 := Int.tmod_nonneg ((hookOf l row s.b).hi - (hookOf l row s.b).lo + 1) (wordV_bd h row).1
  have h3 := Int.tmod_lt_of_pos (wordV ws row) (show 0 < (hookOf l row s.b).hi - (hookOf l row s.b).lo + 1 by omega)
  simp only [inR, decide_eq_true_eq]; omega
theorem pick_truth {l : La} (V : Valid l) {ws : List Int} (h : wordsOk ws) : ∀ (n row : Nat) (s : St), onL l s = true → ∃ over g, Truth l n row s (pickL l ws n row s) over g
  | 0, row, s, h1 => ⟨_, _, .last h1⟩
  | n + 1, row, s, h1 => by
    have hi := pick_in V h row s
    simp only [pickL, h1, if_true]
    cases hon : onL l (nextS s ((hookOf l row s.b).lo + (wordV ws row).tmod ((hookOf l row s.b).hi - (hookOf l row s.b).lo + 1)))
    · have e : ∀ n row, pickL l ws n row (nextS s ((hookOf l row s.b).lo + (wordV ws row).tmod ((hookOf l row s.b).hi - (hookOf l row s.b).lo + 1))) = pickL l ws n row (nextS s ((hookOf l row s.b).lo + (wordV ws row).tmod ((hookOf l row s.b).hi - (hookOf l row s.b).lo + 1))) := fun _ _ => rfl
      clear e
      have e : pickL l ws n (row + 1) (nextS s ((hookOf l row s.b).lo + (wordV ws row).tmod ((hookOf l row s.b).hi - (hookOf l row s.b).lo + 1))) = [] := by
        cases n with
        | zero => rfl
        | succ n => rw [pickL, if_neg (by rw [hon]; decide)]
      rw [e]
      exact ⟨_, _, .off h1 hi hon⟩
    · obtain ⟨over, g, hT⟩ := pick_truth V h n (row + 1) _ hon
      exact ⟨_, _, .on h1 hi (by exact_mod_cast hT)⟩
set_option maxRecDepth 100000 in
theorem lPicked_j (l : La) (s : St) (ws : List Int) (ha pa : Option Addr) (hc pc : Nat) (wa : Option Addr) (wc : Nat) (V : Valid l) (h0 : isStart l s = true) (hw : wordsOk ws) :
    Cr Tryz.prog 15 [.agg #[I l.boards, I l.rows, .slice ha l.hooks.length hc, .slice pa l.patches.length pc], .agg #[I s.b, I s.d], .slice wa ws.length wc] (KAnd (KSl wa ws.length wc encU ws) (KLane l ha hc pa pc)) (fun q : Option Addr × Nat => .slice q.1 (pickL l ws (nR l) 0 s).length q.2) (fun q => KSl q.1 (pickL l ws (nR l) 0 s).length q.2 encI (pickL l ws (nR l) 0 s)) := by
  have r1 := V.r1
  have r2 := V.r2
  have b2 := V.b2
  have sb : 1 ≤ s.b ∧ s.b ≤ l.boards ∧ -5 ≤ s.d ∧ s.d ≤ 5 := by simpa [isStart] using h0
  have hnr : ((nR l : Nat) : Int) = l.rows - 1 := by unfold nR; omega
  refine Cx_of Tryz.func15 rfl Tryz.ntmps15 rfl fun w0 M0 => ?_
  refine JC_seq ?_
  refine JC_region ?_
  refine JL_step rfl rfl rfl (jo_box rfl rfl) fun b3 => ?_
  refine JL_step rfl rfl rfl (jo_box rfl rfl) fun b4 => ?_
  refine JL_pd rfl (det_assign rfl) ?_
  refine JL_nil ?_
  refine JE_seq ?_
  refine JC_seq ?_
  refine JC_region ?_
  refine JL_pd rfl (det_assign rfl) ?_
  refine JL_nil ?_
  refine JE_seq ?_
  refine JC_seq ?_
  refine JC_seq ?_
  refine JC_region ?_
  refine JL_pd rfl (det_assign rfl) ?_
  refine JL_nil ?_
  refine JE_seq ?_
  refine JC_block ?_
  -- stop: loop
  refine JC_nil 3 1 ?_
  refine JC_loopF (γ := Nat × List Int × St × Value) (fun q => q.1 ≤ nR l ∧ q.2.1 ++ pickL l ws (nR l - q.1) q.1 q.2.2.1 = pickL l ws (nR l) 0 s ∧ q.2.1.length ≤ q.1 ∧ (-5 ≤ q.2.2.1.d ∧ q.2.2.1.d ≤ 5) ∧ -10 ≤ q.2.2.1.b ∧ q.2.2.1.b ≤ 50)
    (fun q => [(8, I q.1), (7, q.2.2.2)]) (fun q => [ow q.2.2.2 3 1 q.2.1.length (q.2.1.flatMap encI), bx b4 [I q.2.2.1.b, I q.2.2.1.d]]) (fun q => nR l - q.1) (0, [], s, .slice none 0 0) ⟨by omega, rfl, by simp, sb.2.2, by simp only; omega⟩ (stsub_cons rfl (stsub_cons rfl stsub_nil)) (ht_ow rfl rfl (ht_cons ht_nil)) ?_
  rintro ⟨i, L, s', v⟩ ⟨hi, hL, hLl, hd, hb⟩ K hK
  dsimp only [List.cons_append, List.nil_append] at hi hL hLl hd hb ⊢
  refine JC_seq ?_
  refine JC_seq ?_
  refine JC_region ?_
  refine JL_pd rfl (det_move rfl) ?_
  refine JL_pd rfl (det_add rfl rfl ⟨by omega, by omega⟩) ?_
  refine JL_pd rfl (det_fieldAddr rfl fo_25_1) ?_
  refine JL_dt rfl (det_loadK rfl Tryz.isAgg3 rfl) ?_
  refine JL_pd rfl (det_lss rfl rfl) ?_
  refine JL_pd rfl (det_move rfl) ?_
  -- stop: guard 5
  refine JL_join1 6 22 (.bool (decide ((i : Int) + 1 < l.rows) && onL l s')) (fun hj => ?_) ?_
  · refine JL_split (d0 := 16) rfl (fun q1 => ?_) (fun q1 => ?_)
    · refine JL_guard rfl rfl q1 ?_
      refine JL_pd rfl (det_fieldAddr rfl fo_27_0) ?_
      refine JL_guard rfl rfl q1 ?_
      refine JL_dt rfl (det_loadK rfl Tryz.isAgg3 rfl) ?_
      refine JL_guard rfl rfl q1 ?_
      refine JL_pd rfl (det_fieldAddr rfl fo_25_0) ?_
      refine JL_guard rfl rfl q1 ?_
      refine JL_dt rfl (det_loadK rfl Tryz.isAgg3 rfl) ?_
      refine JL_guard rfl rfl q1 ?_
      refine JL_step rfl rfl rfl (jo_callv rfl rfl Tryz.call40 rfl (rIn_j _ _ _)) fun _ => ?_
      refine JL_pd rfl (det_pick_t rfl q1 rfl) ?_
      exact hj (by kernel_rfl) (stsub_consB rfl (by clear hj; first | rfl | (simp only [onL, q1, Bool.and_true, Bool.true_and, Bool.false_and, Bool.and_false, Bool.or_true, Bool.true_or, Bool.or_false, Bool.false_or, Bool.not_true, Bool.not_false]; done) | (simp [onL, q1]; done) | (simp [onL] at q1; done) | (simp [onL, q1] <;> omega) | (exfalso; simp [onL] at q1; omega)) stsub_nil)
    · refine JL_skip rfl rfl q1 rfl ?_
      refine JL_skip rfl rfl q1 rfl ?_
      refine JL_skip rfl rfl q1 rfl ?_
      refine JL_skip rfl rfl q1 rfl ?_
      refine JL_skip rfl rfl q1 rfl ?_
      refine JL_pd rfl (det_pick_f rfl q1 rfl) ?_
      exact hj (by kernel_rfl) (stsub_consB rfl (by clear hj; first | rfl | (simp only [onL, q1, Bool.and_true, Bool.true_and, Bool.false_and, Bool.and_false, Bool.or_true, Bool.true_or, Bool.or_false, Bool.false_or, Bool.not_true, Bool.not_false]; done) | (simp [onL, q1]; done) | (simp [onL] at q1; done) | (simp [onL, q1] <;> omega) | (exfalso; simp [onL] at q1; omega)) stsub_nil)
  refine JL_nil ?_
  refine JE_seq ?_
  -- stop: cond
  refine JC_cond rfl (fun h1 => ?_) (fun h1 => ?_)
  · simp only [Bool.and_eq_true, decide_eq_true_eq] at h1
    obtain ⟨n, hn⟩ : ∃ n, nR l - i = n + 1 := ⟨nR l - i - 1, by omega⟩
    have hn2 : nR l - (i + 1) = n := by omega
    have hh := hookOf_bd V i s'.b
    have hon := on_b h1.2
    have hp := pick_in V hw i s'
    have hwb := wordV_bd hw i
    obtain ⟨t, ht⟩ : ∃ t, t = (hookOf l i s'.b).lo + (wordV ws i).tmod ((hookOf l i s'.b).hi - (hookOf l i s'.b).lo + 1) := ⟨_, rfl⟩
    rw [← ht] at hp
    have hp2 : (hookOf l i s'.b).lo ≤ t ∧ t ≤ (hookOf l i s'.b).hi := by simpa [inR] using hp
    rw [hn, pickL, if_pos h1.2, ← ht] at hL
    refine JC_skip ?_
    refine JE_seq ?_
    refine JC_seq ?_
    refine JC_block ?_
    refine JC_seq ?_
    refine JC_region ?_
    refine JL_dt rfl (det_loadKA rfl Tryz.isAgg25 Tryz.sizeOf25 rfl rfl) ?_
    refine JL_pd rfl (det_move rfl) ?_
    refine JL_pd rfl (det_fieldAddr rfl fo_27_0) ?_
    refine JL_dt rfl (det_loadK rfl Tryz.isAgg3 rfl) ?_
    refine JL_step rfl rfl rfl (jo_callv rfl rfl Tryz.call50 rfl (rHook_j l i s'.b ha pa hc pc V)) fun _ => ?_
    refine JL_step rfl rfl rfl (jo_alloc0 Tryz.zeroValue107 rfl) fun b9 => ?_
    refine JL_step0 rfl rfl (jo_store rfl rfl rfl (by first | (simp only [splice_norm]; done) | (simp only [splice_norm]; rfl) | rfl) Tryz.sizeOf107 rfl rfl) fun _ => ?_
    refine JL_nil ?_
    refine JE_seq ?_
    refine JC_seq ?_
    refine JC_draw [] (by kernel_rfl) ?_
    refine JA_pd (i := 0) rfl (by kernel_rfl) rfl rfl (det_fieldAddr rfl fo_107_0) ?_
    refine JA_dt (i := 1) rfl (by kernel_rfl) (by kernel_rfl) rfl rfl (det_loadK rfl Tryz.isAgg3 rfl) ?_
    refine JA_pd (i := 2) rfl (by kernel_rfl) rfl rfl (det_move rfl) ?_
    refine JA_pd (i := 3) rfl (by kernel_rfl) rfl rfl (det_move rfl) ?_
    refine JA_pd (i := 5) rfl (by kernel_rfl) rfl rfl (det_fieldAddr rfl fo_107_1) ?_
    refine JA_dt (i := 6) rfl (by kernel_rfl) (by kernel_rfl) rfl rfl (det_loadK rfl Tryz.isAgg3 rfl) ?_
    refine JA_pd (i := 7) rfl (by kernel_rfl) rfl rfl (det_fieldAddr rfl fo_107_0) ?_
    refine JA_dt (i := 8) rfl (by kernel_rfl) (by kernel_rfl) rfl rfl (det_loadK rfl Tryz.isAgg3 rfl) ?_
    refine JA_pd (i := 9) rfl (by kernel_rfl) rfl rfl (det_sub rfl rfl ⟨by omega, by omega⟩) ?_
    refine JA_pd (i := 10) rfl (by kernel_rfl) rfl rfl (det_add rfl rfl ⟨by omega, by omega⟩) ?_
    refine JA_one (i := 4) (by kernel_rfl) rfl rfl (jo_callv rfl rfl Tryz.call51 rfl (lword_j ws i wa wc hw)) (fun _ => ⟨hsub_refl, fun _ h => h⟩) fun _ => ?_
    refine JA_pd (i := 11) rfl (by kernel_rfl) rfl rfl (det_rem rfl rfl (by omega)) ?_
    -- stop: op 12 t42 := (binOp add 3 t31 t41 3)   <1 11>   49
    refine JA_pd (i := 12) rfl (by kernel_rfl) rfl rfl (det_add rfl rfl ⟨by rw [← ht]; omega, by rw [← ht]; omega⟩) ?_
    refine JA_pd (i := 13) rfl (by kernel_rfl) rfl rfl (det_assign rfl) ?_
    refine JA_done (by kernel_rfl) ?_
    refine JE_seq ?_
    refine JC_seq ?_
    refine JC_region ?_
    refine JL_pd rfl (det_move rfl) ?_
    refine JL_pd rfl (det_move rfl) ?_
    refine JL_step rfl rfl rfl (jo_buildSlice rfl (bsl_31_1_0 _)) fun b45 => ?_
    refine JL_step rfl rfl rfl (jo_append el_31 rfl rfl rfl rfl (by omega)) fun b46 => ?_
    refine JL_pd rfl (det_assign rfl) ?_
    refine JL_nil ?_
    refine JE_seq ?_
    refine JC_region ?_
    refine JL_dt rfl (det_loadKA rfl Tryz.isAgg27 Tryz.sizeOf27 rfl rfl) ?_
    refine JL_pd rfl (det_move rfl) ?_
    -- stop: op  2 t49 := (call (Call (value f52) (t47 t48) (27 3)))   <0 1>   51
    rw [← ht]
    refine JL_step rfl rfl rfl (jo_callv rfl rfl Tryz.call52 rfl (rNext_j s' t hd.1 hd.2 (by omega) (by omega) (by omega) (by omega))) fun _ => ?_
    refine JL_step0 rfl rfl (jo_store rfl rfl rfl (by first | (simp only [splice_norm]; done) | (simp only [splice_norm]; rfl) | rfl) Tryz.sizeOf27 rfl rfl) fun _ => ?_
    refine JL_nil ?_
    refine JE_block ?_
    refine JE_seq ?_
    refine JC_region ?_
    refine JL_pd rfl (det_move rfl) ?_
    refine JL_pd rfl (det_add rfl rfl ⟨by omega, by omega⟩) ?_
    refine JL_pd rfl (det_assign rfl) ?_
    refine JL_nil ?_
    -- stop: end
    have hnb := nextS_d s' t
    refine JE_roundF hK (i + 1, L ++ [t], nextS s' t, .slice (some ⟨b46.1, 0, none⟩) (L.length + 1) b46.2) ⟨by simp only; omega, by simp only; rw [hn2, ← hL]; simp, by simp; omega, hnb, ?_⟩ (by simp only; omega) (stsub_consI rfl (by simp only; omega) (stsub_cons rfl stsub_nil)) (ht_ow (by simp) (by simp [encI]) (ht_bx rfl ht_nil))
    have : (nextS s' t).b = s'.b + (nextS s' t).d := rfl
    simp only; omega
  · have hnil : pickL l ws (nR l - i) i s' = [] := by
      rcases Nat.lt_or_ge i (nR l) with h2 | h2
      · obtain ⟨n, hn⟩ : ∃ n, nR l - i = n + 1 := ⟨nR l - i - 1, by omega⟩
        rw [hn, pickL, if_neg]
        intro h3
        rw [h3] at h1
        simp at h1
        omega
      · rw [show nR l - i = 0 by omega]; rfl
    rw [hnil, List.append_nil] at hL
    refine JC_slice (enc := encI) (v := v) L noFp rfl rfl ?_
    rintro a cap rfl
    subst hL
    refine JC_exit ?_
    refine JE_seq_exit ?_
    refine JE_then_exit ?_
    refine JE_block_here ?_
    refine JE_seq ?_
    refine JC_seq ?_
    refine JC_region ?_
    refine JL_pd rfl (det_move rfl) ?_
    refine JL_pd rfl (det_assign rfl) ?_
    refine JL_nil ?_
    refine JE_seq ?_
    refine JC_ret ?_
    -- stop: out
    refine JE_out (.inl rfl) (a, cap) (results1 Tryz.results15 (res_tmp rfl)) rfl (List.Perm.refl _) (fun w h => h.1)
/-- Play, of a truth. -/
theorem Play_jt {l : La} {s : St} {ts : List Int} {over : List St} {g : Bool} (ha pa : Option Addr) (hc pc : Nat) (ta : Option Addr) (tc : Nat) (he : startErr l s = 0) (hT : Truth l (nR l) 0 s ts over g) : Cr Tryz.prog 12 [.agg #[I l.boards, I l.rows, .slice ha l.hooks.length hc, .slice pa l.patches.length pc], .agg #[I s.b, I s.d], .slice ta ts.length tc] (KAnd (KSl ta ts.length tc encI ts) (KLane l ha hc pa pc))
    (fun q : Option Addr × Nat => .tuple #[.slice q.1 over.length q.2, .bool g, I 0]) (fun q => KSl q.1 over.length q.2 encSt over) := by
  obtain ⟨V, h0⟩ := valid_start he
  have hp := hT.playV V
  have h := Play_j1 l s ts ha pa hc pc ta tc he (by have := hT.len.2.2.2; have := V.r2; unfold nR at *; omega) (by rw [hp])
  rw [hp] at h
  exact h
end Go.Proofs.YthpkgabckklojaaGreat
