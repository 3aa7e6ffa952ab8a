/- The statements about lend: LendLater, plain words; a list of the call's own. -/
import Derived.Test.YtkmaafnbefpdjaaE25
set_option linter.unusedSimpArgs false
set_option linter.unusedVariables false
namespace Go.Proofs.Ytkmaafnbefpdjaa
open Go.RowKit Go.Shelf

theorem right_set {l : List Gr} {p : List Int} {k : Nat} (hk : k < l.length) (hn : p.length = l.length) (hR : RightZ (l.zip p)) (g' : Gr) (n : Int) :
    RightZ ((l.set k g').zip (p.set k n)) ↔ ∀ i (hi : i < l.length), i ≠ k → apartP (l[i], p[i]'(by omega)) (g', n) := by
  have hlen : ((l.set k g').zip (p.set k n)).length = l.length := by simp [List.length_zip]; omega
  have hget : ∀ i (hi : i < l.length), ((l.set k g').zip (p.set k n))[i]'(by omega) = if i = k then (g', n) else (l[i], p[i]'(by omega)) := fun i hi => by
    rw [List.getElem_zip, List.getElem_set, List.getElem_set]
    by_cases e : k = i
    · subst e; simp
    · rw [if_neg e, if_neg e, if_neg fun h => e h.symm]
  have hzl : (l.zip p).length = l.length := by rw [List.length_zip]; omega
  constructor
  · intro h i hi hne
    rcases Nat.lt_or_gt_of_ne hne with hlt | hlt
    · have := List.pairwise_iff_getElem.1 h i k (by omega) (by omega) hlt
      rw [hget i hi, hget k hk, if_neg hne, if_pos rfl] at this
      exact this
    · have := List.pairwise_iff_getElem.1 h k i (by omega) (by omega) hlt
      rw [hget i hi, hget k hk, if_neg hne, if_pos rfl] at this
      exact apartP_symm this
  · intro h
    refine List.pairwise_iff_getElem.2 fun i j hi hj hij => ?_
    rw [hlen] at hi hj
    rw [hget i hi, hget j hj]
    by_cases e1 : i = k
    · rw [if_pos e1, if_neg (by omega)]
      exact apartP_symm (h j hj (by omega))
    · rw [if_neg e1]
      by_cases e2 : j = k
      · rw [if_pos e2]; exact h i hi e1
      · rw [if_neg e2]
        have := List.pairwise_iff_getElem.1 hR i j (by omega) (by omega) hij
        rwa [List.getElem_zip, List.getElem_zip] at this
/-- A group as long, at another hour. -/
def moved (g : Gr) (at_ : Int) : Gr := ⟨at_, at_, at_ + (g.hi - g.fr), g.feet⟩
theorem free_set {l : List Gr} {p : List Int} {k : Nat} (hk : k < l.length) (hn : p.length = l.length) (hkp : p[k]'(by omega) = -1) (hV : ∀ g ∈ l, VGr g) (n : Int) (h0 : 0 ≤ n) (a : Int) :
    freeW (tk (l.zip p)) l[k] n a = true ↔ ∀ i (hi : i < l.length), i ≠ k → apartP (l[i], p[i]'(by omega)) (moved l[k] (l[k].fr + a), n) := by
  have hzl : (l.zip p).length = l.length := by rw [List.length_zip]; omega
  have vk := hV _ (List.getElem_mem hk)
  have := vk.fl
  have := vk.lh
  rw [free_apart h0]
  constructor
  · rintro h i hi hne ⟨q1, q2, q3⟩
    have vi := hV _ (List.getElem_mem hi)
    have := vi.fl
    have := vi.lh
    unfold ovl moved at q3
    simp only at q1 q2 q3
    have hz := h (l[i], p[i]'(by omega)) (by rw [← List.getElem_zip (h := by omega)]; exact List.getElem_mem _) q2
    exact hz (max l[i].fr (l[k].fr + a) - a) (inI_iff.2 (by omega)) (inI_iff.2 (by simp only; omega))
  · intro h z hz e t ht hs
    obtain ⟨i, hi, rfl⟩ := List.mem_iff_getElem.1 hz
    rw [hzl] at hi
    rw [List.getElem_zip] at e hs
    simp only at e hs
    by_cases hne : i = k
    · subst hne; omega
    · have s1 := inI_iff.1 ht
      have s2 := inI_iff.1 hs
      exact h i hi hne ⟨by simp only; omega, e, by unfold ovl moved; simp only; omega⟩
theorem laterN_spec (m : Int × Int → Bool) (k : Nat) (g : Gr) : ∀ N : Nat, (laterN m k g N = none ∧ ∀ A, A < N → ∀ n, n < k → freeW m g (n : Int) A = false) ∨
    ∃ A n : Nat, laterN m k g N = some ((n : Int), g.fr + A) ∧ A < N ∧ n < k ∧ freeW m g n A = true ∧ (∀ n', n' < n → freeW m g (n' : Int) A = false) ∧ ∀ A', A' < A → ∀ n', n' < k → freeW m g (n' : Int) A' = false
  | 0 => .inl ⟨rfl, fun A h => by omega⟩
  | N + 1 => by
    rcases laterN_spec m k g N with ⟨h1, h2⟩ | ⟨A, n, h1, h2, h3⟩
    · have hs := laterN_snoc h1
      cases hl : laneV m k g N with
      | none =>
        rw [hl] at hs
        refine .inl ⟨hs, fun A hA n hn => ?_⟩
        by_cases e : A = N
        · subst e
          have := List.find?_eq_none.1 hl n (List.mem_range.2 hn)
          simpa using this
        · exact h2 A (by omega) n hn
      | some n =>
        rw [hl] at hs
        obtain ⟨q1, q2⟩ := List.find?_range_eq_some.1 hl
        exact .inr ⟨N, n, hs, by omega, List.mem_range.1 q2.1, q1, fun n' hn' => by simpa using q2.2 n' hn', fun A' hA' n' hn' => h2 A' hA' n' hn'⟩
    · exact .inr ⟨A, n, laterN_mono h1 (by omega), by omega, h3⟩
theorem lList_o (xs : List Int) (a : Option Addr) (cap : Nat) (hx : xs.length ≤ 1000000) : Cx Try.prog 23 [.slice a xs.length cap] [] (KSl a xs.length cap encI xs) (fun v : Value => v) (fun v => [ow v 3 1 xs.length (xs.flatMap encI)]) (fun _ => KTrue) := by
  refine Cx_of Try.func23 rfl Try.ntmps23 rfl fun w0 M0 => ?_
  refine JC_seq ?_
  refine JC_region ?_
  refine JL_pd rfl (det_assign rfl) ?_
  refine JL_nil ?_
  refine JE_seq ?_
  refine JC_seq ?_
  refine JC_region ?_
  refine JL_pd rfl (det_move rfl) ?_
  -- stop: op  1 t4 := (call (Call (builtin append) ((slice none 0 0) t3) (22 22)))   <0>   11
  refine JL_nilS 3 1 ?_
  refine JL_step rfl rfl rfl (jo_appendK (e := encI) el_22 rfl rfl encI_one (by simpa using hx)) fun v => ?_
  refine JL_pd rfl (det_assign rfl) ?_
  refine JL_nil ?_
  refine JE_seq ?_
  refine JC_ret ?_
  -- stop: out
  simp only [Nat.zero_add, List.nil_append]
  refine JE_out (.inl rfl) v (results1 Try.results23 (res_tmp rfl)) rfl (List.Perm.refl _) (fun _ _ => trivial)
theorem set_mid {α : Type} : ∀ (A B C : List α) (c : Nat) (v : α), c < B.length → (A ++ B ++ C).set (A.length + c) v = A ++ B.set c v ++ C
  | [], B, C, c, v, h => by simp [List.set_append_left _ _ h]
  | a :: A, B, C, c, v, h => by
    have := set_mid A B C c v h
    simp only [List.cons_append, List.length_cons]
    rw [show A.length + 1 + c = (A.length + c) + 1 by omega, List.set_cons_succ, this]
theorem splice_mid : ∀ (vs A B C : List Value) (c : Nat), c + vs.length ≤ B.length → splice (A ++ B ++ C) (A.length + c) vs = A ++ splice B c vs ++ C
  | [], A, B, C, c, _ => rfl
  | v :: vs, A, B, C, c, h => by
    simp only [List.length_cons] at h
    rw [splice, splice, set_mid A B C c v (by omega), Nat.add_assoc]
    exact splice_mid vs A (B.set c v) C (c + 1) (by rw [List.length_set]; omega)
/-- A part of a record put anew. -/
theorem splice_in {α : Type} (enc : α → List Value) {z : Nat} [hz : Rec enc z] (xs : List α) (i : Nat) (y : α) (c : Nat) (vs : List Value) (hi : i < xs.length) (hc : c + vs.length ≤ z) (hy : splice (enc xs[i]) c vs = enc y) : splice (xs.flatMap enc) (i * z + c) vs = (xs.set i y).flatMap enc := by
  have e : xs.flatMap enc = (xs.take i).flatMap enc ++ enc xs[i] ++ (xs.drop (i + 1)).flatMap enc := by
    conv => lhs; rw [← List.take_append_drop i xs, List.drop_eq_getElem_cons hi, List.flatMap_append, List.flatMap_cons, ← List.append_assoc]
  have hl : ((xs.take i).flatMap enc).length = i * z := by rw [flat_len, List.length_take, Nat.min_eq_left (by omega)]
  rw [e, ← hl, splice_mid _ _ _ _ _ (by rw [hz.len]; exact hc), hy, List.set_eq_take_append_cons_drop, if_pos hi, List.flatMap_append, List.flatMap_cons, ← List.append_assoc]
end Go.Proofs.Ytkmaafnbefpdjaa
