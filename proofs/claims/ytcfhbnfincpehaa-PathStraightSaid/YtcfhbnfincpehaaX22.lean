/- A lane whose hooks are all nothing: what is reached, what hits. And a record onto a slice of the call's own, the weight given. -/
import Derived.Test.YtcfhbnfincpehaaB7
import Derived.Test.YtcfhbnfincpehaaB9
set_option linter.unusedSimpArgs false
set_option linter.unusedVariables false
namespace Go.Proofs.Ytcfhbnfincpehaa
open Go.RowKit Go.Shelf

/-- The lane, all hooks 0. -/
def strL (l : La) : La := ⟨l.boards, l.rows, List.replicate l.hooks.length ⟨0, 0⟩, l.patches⟩
theorem strL_len (l : La) : (strL l).hooks.length = l.hooks.length := by simp [strL]
theorem str_hook (l : La) (row b : Int) : hookOf (strL l) row b = ⟨0, 0⟩ := by
  unfold hookOf strL
  rw [List.getD_eq_getElem?_getD, List.getElem?_replicate]
  split <;> rfl
theorem str_step (l : La) (row : Int) {s : St} (h : -5 ≤ s.d ∧ s.d ≤ 5) : stepsOf (strL l) row s = [⟨s.b + s.d, s.d⟩] := by
  unfold stepsOf
  rw [str_hook]
  have e : clamp (s.d + 0) = s.d := by unfold clamp; omega
  show [nextS s (0 + ((0 : Nat) : Int))] = _
  unfold nextS
  simp only [Int.natCast_zero, Int.add_zero] at e ⊢
  rw [e]
/-- Where the ball is after k rows. -/
def strS (s : St) (k : Nat) : St := ⟨s.b + k * s.d, s.d⟩
theorem strS_zero (s : St) : strS s 0 = s := by simp [strS]
theorem strS_succ (s : St) (k : Nat) : strS s (k + 1) = ⟨(strS s k).b + (strS s k).d, (strS s k).d⟩ := by
  simp only [strS, St.mk.injEq, and_true, Int.natCast_add, Int.add_mul]
  omega
theorem strS_shift (s : St) (k : Nat) : strS ⟨s.b + s.d, s.d⟩ k = strS s (k + 1) := by
  simp only [strS, St.mk.injEq, and_true, Int.natCast_add, Int.add_mul]
  omega
theorem strS_on {l : La} {s : St} (h0 : onL l s = true) {k : Nat} (h : onL l (strS s (k + 1)) = true) : onL l (strS s k) = true := by
  have e := strS_succ s k
  simp only [onL, decide_eq_true_eq] at h0 h ⊢
  rw [e] at h
  simp only [strS] at h ⊢
  rcases Int.le_total 0 s.d with hd | hd
  · have := Int.mul_nonneg (Int.natCast_nonneg k) hd
    omega
  · have : (k : Int) * s.d ≤ 0 := Int.mul_nonpos_of_nonneg_of_nonpos (Int.natCast_nonneg k) hd
    omega
theorem strS_on_le {l : La} {s : St} (h0 : onL l s = true) {k j : Nat} (hj : j ≤ k) (h : onL l (strS s k) = true) : onL l (strS s j) = true := by
  induction k with
  | zero => obtain rfl : j = 0 := by omega
            exact h
  | succ k ih =>
    by_cases e : j = k + 1
    · subst e; exact h
    · exact ih (by omega) (strS_on h0 h)
theorem str_rch {l : La} {s : St} (hd : -5 ≤ s.d ∧ s.d ≤ 5) (h0 : onL l s = true) : ∀ (k : Nat) (t : St), Rch (strL l) s k t ↔ onL l (strS s k) = true ∧ t = strS s k
  | 0, t => by rw [strS_zero]; simp [Rch, h0]
  | k + 1, t => by
    show (onL (strL l) t = true ∧ ∃ u, Rch (strL l) s k u ∧ t ∈ stepsOf (strL l) k u) ↔ _
    constructor
    · rintro ⟨h1, u, h2, h3⟩
      obtain ⟨_, rfl⟩ := (str_rch hd h0 k u).1 h2
      rw [str_step l k (s := strS s k) hd, List.mem_singleton, ← strS_succ] at h3
      subst h3
      exact ⟨h1, rfl⟩
    · rintro ⟨h1, rfl⟩
      refine ⟨h1, strS s k, (str_rch hd h0 k _).2 ⟨strS_on h0 h1, rfl⟩, ?_⟩
      rw [str_step l k (s := strS s k) hd, List.mem_singleton, ← strS_succ]
theorem onL_str (l : La) (t : St) : onL (strL l) t = onL l t := rfl
theorem str_rowL {l : La} {s : St} (V : Valid (strL l)) (h0 : isStart (strL l) s = true) (k : Nat) : rowL (strL l) s k = if onL l (strS s k) = true then [strS s k] else [] := by
  have hd := start_d h0
  have hon : onL l s = true := onL_start (l := strL l) h0
  have hm := fun t => (mem_rowL V h0 (k := k) (t := t)).trans (str_rch hd hon k t)
  have hs := rowL_sorted (strL l) s k
  by_cases h : onL l (strS s k) = true
  · rw [if_pos h]
    have h1 : ∀ t ∈ rowL (strL l) s k, t = strS s k := fun t ht => ((hm t).1 ht).2
    have h2 : strS s k ∈ rowL (strL l) s k := (hm _).2 ⟨h, rfl⟩
    match hx : rowL (strL l) s k with
    | [] => rw [hx] at h2; cases h2
    | [a] => rw [hx] at h1; rw [h1 a (by simp)]
    | a :: b :: r =>
      rw [hx] at h1 hs
      have ea := h1 a (by simp)
      have eb := h1 b (by simp)
      have := (List.pairwise_cons.1 hs).1 b (by simp)
      rw [ea, eb] at this
      simp [lessS] at this
  · rw [if_neg h]
    refine List.eq_nil_iff_forall_not_mem.2 fun t ht => h ((hm t).1 ht).1
theorem str_rowV {l : La} {s : St} (V : Valid (strL l)) (h0 : isStart (strL l) s = true) (k : Nat) : rowV (strL l) s k = if onL l (strS s k) = true then 0 else 2 := by
  have hd := start_d h0
  have hon : onL l s = true := onL_start (l := strL l) h0
  unfold rowV
  rw [str_rowL V h0]
  by_cases h : onL l (strS s k) = true
  · rw [if_pos h, if_pos h, if_neg (by simp), if_neg]
    intro hc
    rw [List.any_eq_true] at hc
    obtain ⟨j, hj, hg⟩ := hc
    have hj := List.mem_range.1 hj
    unfold gutB at hg
    rw [str_rowL V h0, if_pos (strS_on_le hon (by omega) h)] at hg
    simp only [List.any_cons, List.any_nil, Bool.or_false] at hg
    rw [str_step l j (s := strS s j) hd, ← strS_succ] at hg
    simp only [List.any_cons, List.any_nil, Bool.or_false, onL_str, strS_on_le hon (show j + 1 ≤ k by omega) h] at hg
    cases hg
  · rw [if_neg h, if_neg h, if_pos rfl]
theorem str_can {l : La} {en : Bool → St → Bool} (he : ∀ x y, en false x = en false y) : ∀ (n : Nat) (row : Int) (s : St), -5 ≤ s.d ∧ s.d ≤ 5 → onL l s = true → canN (strL l) en n row s = en (onL l (strS s n)) (strS s n)
  | 0, row, s, hd, h0 => by rw [strS_zero]; rfl
  | n + 1, row, s, hd, h0 => by
    simp only [canN, onL_str, h0, if_true]
    rw [str_step l row hd]
    simp only [List.any_cons, List.any_nil, Bool.or_false]
    by_cases h1 : onL l ⟨s.b + s.d, s.d⟩ = true
    · rw [str_can he n (row + 1) ⟨s.b + s.d, s.d⟩ hd h1, strS_shift]
    · have h1 : onL l ⟨s.b + s.d, s.d⟩ = false := by simpa using h1
      rw [canN_off (l := strL l) h1]
      have h2 : onL l (strS s (n + 1)) = false := by
        cases hc : onL l (strS s (n + 1))
        · rfl
        · have := strS_on_le h0 (show 1 ≤ n + 1 by omega) hc
          have e : strS s 1 = ⟨s.b + s.d, s.d⟩ := by rw [← strS_shift, strS_zero]
          rw [e, h1] at this; cases this
      rw [h2]
      exact he _ _
theorem str_hits {l : La} {s : St} (p : Pk) (h0 : isStart (strL l) s = true) : hitsV (strL l) s p = if hitsP p (onL l (strS s (nR l))) (strS s (nR l)) = true then 2 else 0 := by
  have hd := start_d h0
  have hon : onL l s = true := onL_start (l := strL l) h0
  unfold hitsV
  rw [show nR (strL l) = nR l from rfl, str_can (fun _ _ => rfl) _ _ _ hd hon, str_can (fun _ _ => rfl) _ _ _ hd hon]
  unfold enM
  cases hitsP p (onL l (strS s (nR l))) (strS s (nR l)) <;> rfl
section
variable {X : Ctx} {P : Program} {st : Sto} {H H' : List Chunk} {R : World → Prop} {d : Option Nat} {ty : TypeId} {pos : String} {af : Array Edge} {g : Option (Nat × Bool)}
/-- One more record, onto a slice of the call's own: however many they are, if they weigh little enough. -/
theorem jo_appendW {s x : Operand} {t T z n b c bytes : Nat} {v : Value} {xs news : List Value} (E : ElemOf P t T z bytes) (hs : opnd st s = some v) (hx : opnd st x = some (.slice (some ⟨b, 0, none⟩) 1 c)) [ho : OwnAt H v T z n xs H'] [hb : BoxAt H b news]
    (hl : news.length = z) (h1 : news.all (·.oneCell') = true) (hn : (n + 1) * bytes ≤ 140737488355328) (h63 : n < 9223372036854775807) :
    JO X P ⟨d, .call ⟨.builtin .append, #[s, x], #[t, t]⟩, ty, pos, af, g⟩ st H R (fun p : Nat × Nat => .slice (some ⟨p.1, 0, none⟩) (n + 1) p.2) (fun p => ow (.slice (some ⟨p.1, 0, none⟩) (n + 1) p.2) T z (n + 1) (xs ++ news) :: H') (fun _ => R) := by
  intro a w M Ds K Q hst hm hK
  obtain ⟨A, B, e1, e2⟩ := ho.ex
  have hbx : Box w b news := (hm.hold _ hb.mem).now
  subst e1 e2
  have hm2 := hm.perm (mid_perm A B _)
  have hown : w.ownsRow 0 T z v n xs := (hm.hold (ow v T z n xs) (by simp)).now
  obtain ⟨i, zv, i1, i2, i3, i4, i5⟩ := E.ex
  obtain ⟨gg, cap, w', r1, r2, r3, r4, r5⟩ := run_append_lies (P := P) w t ty 0 T i zv z bytes E.ht i1 i2 i3 i4 i5 E.pos v n xs hown ⟨b, 0, none⟩ 1 c news (by omega)
    (fun j u hu => by have := hbx.cell j hu; rw [addr_add]; simpa using this) (fun u hu => List.all_eq_true.1 h1 u hu) (by omega) (by have : maxLen = 9223372036854775807 := rfl; omega)
    hn (Nat.zero_le _) w.heap.size rfl
  refine ⟨fun f _ => fof_fn _ f, ?_⟩
  rw [semAt_plain _ _ _ (by intro c h; cases h)]
  have hrun : (execOp a.eval ⟨d, .call ⟨.builtin .append, #[s, x], #[t, t]⟩, ty, pos, af, g⟩).run P w = .ok (.value (.slice (some ⟨gg, 0, none⟩) (n + 1) cap)) w' := by
    simp only [execOp, resolve, invoke, builtin, Sem.run_bind, Sem.run_pure, Result.andThen_ok, List.map_toArray, List.map_cons, List.map_nil, hst.eval hs, hst.eval hx, r1]
  rw [hrun]
  refine hK (gg, cap) w' (fun x => M x ∨ x = gg) ?_
  have hold := ow_holds r2
  have hmv : Moves (fun x => ∃ c ∈ [ow v T z n xs], c.own x) w w' := ⟨r3.os, r3.tape, r3.output, r3.size, fun k hk hn' => r3.block k hk (fun e => hn' ⟨_, List.mem_singleton.2 rfl, e.symm⟩)⟩
  have := hm2.swap (C' := [ow (.slice (some ⟨gg, 0, none⟩) (n + 1) cap) T z (n + 1) (xs ++ news)]) (R' := fun _ => True) (fun x => M x ∨ x = gg) hmv (fun _ h => .inl h)
    (fun x hx => by
      rcases hx with hx | rfl
      · exact .inl hx
      · rcases r4 with r4 | r4
        · exact .inl (hm2.own (ow v T z n xs) (by simp) _ r4)
        · exact .inr (by omega))
    (fun x hx => by
      rcases hx with hx | rfl
      · exact Nat.lt_of_lt_of_le (hm.bd x hx) r3.size
      · exact r5)
    (by intro c hc; simp at hc; subst hc; exact hold)
    (by
      intro c hc x hx
      simp at hc; subst hc
      have e : x = gg := by
        have : (Value.slice (some (⟨gg, 0, none⟩ : Addr)) (n + 1) cap).ownBlock = some x := hx
        simpa [Value.ownBlock] using this.symm
      subst e
      refine ⟨.inr rfl, ?_⟩
      rcases r4 with r4 | r4
      · exact .inl ⟨ow v T z n xs, by simp, r4⟩
      · exact .inr (by omega)) (by simp) (fun _ _ => trivial)
  exact this.know fun w h => h.2
end
theorem elW : ElemOf Try.prog 22 53 2 16 := .mk' (z := .agg #[.int .i64 0, .int .i64 0]) Try.underlying22 (by kernel_rfl) rfl (by decide) (by decide)
end Go.Proofs.Ytcfhbnfincpehaa
