/- Bill, plain: what makes the best purchase no dearer. -/
import Derived.Test.YtjbmkdbgobmclaaB47
set_option linter.unusedSimpArgs false
set_option linter.unusedVariables false
namespace Go.Proofs.Ytjbmkdbgobmclaa
open Go.RowKit Go.Shelf

theorem leA_iff {a b : Am} : leA a b = true ↔ a.g ≤ b.g ∧ a.q ≤ b.q ∧ a.s ≤ b.s := by unfold leA; exact decide_eq_true_iff
/-- If some purchase is allowed and covers, the best one is there, and no dearer. -/
theorem bst_le {at_ : Int} {l : List Of} {need : Am} {p : List Int} (hV : ∀ o ∈ l, VOf o) (hn : am12 need) (h1 : alP at_ l p = true) (h2 : leA need (hvP l p) = true) : ∃ b, bst at_ l need = some b ∧ b.cost ≤ coP l p := by
  obtain ⟨b, e, h⟩ := bst_complete at_ l need p hV hn h1 h2
  refine ⟨b, e, ?_⟩
  rw [befV_iff] at h
  simp only [btP] at h
  omega
theorem less_le {at_ : Int} {l : List Of} {need less : Am} {b : Bt} (hV : ∀ o ∈ l, VOf o) (hn : am12 need) (hl : am12 less) (h : leA less need = true) (hb : bst at_ l need = some b) : ∃ c, bst at_ l less = some c ∧ c.cost ≤ b.cost := by
  obtain ⟨s1, s2, s3⟩ := bst_sound at_ l need b hV hn hb
  have hc : b.cost = coP l b.list := congrArg Bt.cost s3
  rw [hc]
  refine bst_le hV hl s1 (leA_iff.2 ?_)
  have q1 := leA_iff.1 h
  have q2 := leA_iff.1 s2
  omega
def full1 (o : Of) : Of := ⟨o.price, o.am, o.lo, o.hi, 12⟩
def full (l : List Of) : List Of := l.map full1
theorem full_V {l : List Of} (hV : ∀ o ∈ l, VOf o) : ∀ o ∈ full l, VOf o := fun o h => by
  obtain ⟨x, hx, rfl⟩ := List.mem_map.1 h
  have v := hV x hx
  exact ⟨v.p0, v.p1, v.am, v.l0, v.lh, v.h1, by simp [full1], by simp [full1]⟩
theorem full_hv : ∀ (l : List Of) (p : List Int), hvP (full l) p = hvP l p ∧ coP (full l) p = coP l p
  | [], _ => ⟨rfl, rfl⟩
  | _ :: _, [] => ⟨rfl, rfl⟩
  | o :: os, n :: ns => by
    obtain ⟨h1, h2⟩ := full_hv os ns
    unfold full at *
    rw [List.map_cons, hvP, hvP, coP, coP, h1, h2]
    exact ⟨rfl, rfl⟩
theorem full_al {at_ : Int} : ∀ {l : List Of} {p : List Int}, (∀ o ∈ l, VOf o) → alP at_ l p = true → alP at_ (full l) p = true
  | [], [], _, _ => rfl
  | [], _ :: _, _, h => by cases h
  | _ :: _, [], _, h => by cases h
  | o :: os, n :: ns, hV, h => by
    have v := hV o (List.mem_cons_self ..)
    unfold alP at h
    rw [Bool.and_eq_true, inI_iff] at h
    have ih := full_al (fun x hx => hV x (List.mem_cons_of_mem _ hx)) h.2
    have hm : mostV o at_ ≤ mostV (full1 o) at_ := by
      have := v.m1
      unfold mostV full1
      simp only
      split <;> omega
    show (inI n 0 (mostV (full1 o) at_) && alP at_ (full os) ns) = true
    rw [ih, inI_iff.2 ⟨h.1.1, by omega⟩]; rfl
theorem full_le {at_ : Int} {l : List Of} {need : Am} {b : Bt} (hV : ∀ o ∈ l, VOf o) (hn : am12 need) (hb : bst at_ l need = some b) : ∃ c, bst at_ (full l) need = some c ∧ c.cost ≤ b.cost := by
  obtain ⟨s1, s2, s3⟩ := bst_sound at_ l need b hV hn hb
  have hc : b.cost = coP l b.list := congrArg Bt.cost s3
  obtain ⟨f1, f2⟩ := full_hv l b.list
  rw [hc, ← f2]
  exact bst_le (full_V hV) hn (full_al hV s1) (by rw [f1]; exact s2)
theorem more_le {at_ : Int} {l : List Of} {o : Of} {need : Am} {b : Bt} (hV : ∀ x ∈ l, VOf x) (ho : VOf o) (hn : am12 need) (hb : bst at_ l need = some b) : ∃ c, bst at_ (l ++ [o]) need = some c ∧ c.cost ≤ b.cost := by
  obtain ⟨s1, s2, s3⟩ := bst_sound at_ l need b hV hn hb
  have hl := alP_len s1
  have hc : b.cost = coP l b.list + 0 * o.price := by rw [Int.zero_mul, Int.add_zero]; exact congrArg Bt.cost s3
  rw [← coP_app _ _ _ _ hl.symm] at hc
  rw [hc]
  refine bst_le (fun x hx => ?_) hn ?_ ?_
  · rcases List.mem_append.1 hx with hx | hx
    · exact hV x hx
    · rw [List.mem_singleton.1 hx]; exact ho
  · rw [alP_app _ _ _ _ _ hl.symm, s1, inI_iff.2 ⟨Int.le_refl _, (most_bd ho at_).1⟩]; rfl
  · rw [hvP_app _ _ _ _ hl.symm, Int.zero_mul, Int.zero_mul, Int.zero_mul, Int.add_zero, Int.add_zero, Int.add_zero]
    exact s2
/-- Two purchases together, each offer at most 12 times. -/
def bothP : List Int → List Int → List Int
  | x :: xs, y :: ys => min 12 (x + y) :: bothP xs ys
  | _, _ => []
theorem comp_step {nx mx kx H1 H2 H : Int} (h0 : 0 ≤ kx) (h : kx = nx + mx ∨ (nx = 0 ∧ mx = 0) ∨ 12 ≤ kx) (a1 : 0 ≤ H1) (a2 : 0 ≤ H2) (i : min 12 (H1 + H2) ≤ H) : min 12 (nx + H1 + (mx + H2)) ≤ kx + H := by
  omega
theorem both_ok {at_ : Int} : ∀ {l : List Of} {p q : List Int}, (∀ o ∈ l, VOf o) → alP at_ (full l) p = true → alP at_ (full l) q = true →
    alP at_ (full l) (bothP p q) = true ∧ coP l (bothP p q) ≤ coP l p + coP l q ∧ min 12 ((hvP l p).g + (hvP l q).g) ≤ (hvP l (bothP p q)).g ∧ min 12 ((hvP l p).q + (hvP l q).q) ≤ (hvP l (bothP p q)).q ∧ min 12 ((hvP l p).s + (hvP l q).s) ≤ (hvP l (bothP p q)).s
  | [], [], [], _, _, _ => by refine ⟨rfl, ?_, ?_, ?_, ?_⟩ <;> simp only [bothP, coP, hvP] <;> omega
  | [], _ :: _, _, _, h, _ => by cases h
  | [], [], _ :: _, _, _, h => by cases h
  | _ :: _, [], _, _, h, _ => by cases h
  | _ :: _, _ :: _, [], _, _, h => by cases h
  | o :: os, n :: ns, m :: ms, hV, h1, h2 => by
    have v := hV o (List.mem_cons_self ..)
    have hV' : ∀ x ∈ os, VOf x := fun x hx => hV x (List.mem_cons_of_mem _ hx)
    have h1' : (inI n 0 (mostV (full1 o) at_) && alP at_ (full os) ns) = true := h1
    have h2' : (inI m 0 (mostV (full1 o) at_) && alP at_ (full os) ms) = true := h2
    rw [Bool.and_eq_true, inI_iff] at h1' h2'
    obtain ⟨i1, i2, i3, i4, i5⟩ := both_ok hV' h1'.2 h2'.2
    have p1 := v.p0
    have g0 := v.am.g0
    have q0 := v.am.q0
    have s0 := v.am.s0
    have hk : ∃ k : Int, k = min 12 (n + m) := ⟨_, rfl⟩
    obtain ⟨k, hk⟩ := hk
    have hmul : ∀ x : Int, 0 ≤ x → 0 ≤ k * x ∧ k * x ≤ n * x + m * x ∧ (k * x = n * x + m * x ∨ (n * x = 0 ∧ m * x = 0) ∨ 12 ≤ k * x) := fun x hx => by
      have e : n * x + m * x = (n + m) * x := (Int.add_mul ..).symm
      have a1 : 0 ≤ k * x := Int.mul_nonneg (by omega) hx
      have a2 : k * x ≤ (n + m) * x := Int.mul_le_mul_of_nonneg_right (by omega) hx
      refine ⟨a1, by omega, ?_⟩
      by_cases h12 : n + m ≤ 12
      · left
        rw [e, show k = n + m by omega]
      · right
        by_cases hx0 : x = 0
        · subst hx0; left; simp
        · right
          have : 12 * 1 ≤ k * x := Int.mul_le_mul (by omega) (by omega) (by omega) (by omega)
          omega
    have m1 := hmul o.price p1
    have m2 := hmul o.am.g g0
    have m3 := hmul o.am.q q0
    have m4 := hmul o.am.s s0
    have hz1 := hvP_0 (at_ := at_) (full_V hV') h1'.2
    have hz2 := hvP_0 (at_ := at_) (full_V hV') h2'.2
    rw [(full_hv os ns).1] at hz1
    rw [(full_hv os ms).1] at hz2
    have hmx : mostV (full1 o) at_ ≤ 12 ∧ (mostV (full1 o) at_ = 0 ∨ mostV (full1 o) at_ = 12) := by
      unfold mostV full1
      simp only
      split <;> omega
    refine ⟨?_, ?_, ?_, ?_, ?_⟩
    · show (inI (min 12 (n + m)) 0 (mostV (full1 o) at_) && alP at_ (full os) (bothP ns ms)) = true
      rw [i1, inI_iff.2 ⟨by omega, by omega⟩]; rfl
    · show min 12 (n + m) * o.price + coP os (bothP ns ms) ≤ n * o.price + coP os ns + (m * o.price + coP os ms)
      rw [← hk]; omega
    · show min 12 (n * o.am.g + (hvP os ns).g + (m * o.am.g + (hvP os ms).g)) ≤ min 12 (n + m) * o.am.g + (hvP os (bothP ns ms)).g
      rw [← hk]; exact comp_step m2.1 m2.2.2 hz1.1 hz2.1 i3
    · show min 12 (n * o.am.q + (hvP os ns).q + (m * o.am.q + (hvP os ms).q)) ≤ min 12 (n + m) * o.am.q + (hvP os (bothP ns ms)).q
      rw [← hk]; exact comp_step m3.1 m3.2.2 hz1.2.1 hz2.2.1 i4
    · show min 12 (n * o.am.s + (hvP os ns).s + (m * o.am.s + (hvP os ms).s)) ≤ min 12 (n + m) * o.am.s + (hvP os (bothP ns ms)).s
      rw [← hk]; exact comp_step m4.1 m4.2.2 hz1.2.2.1 hz2.2.2.1 i5
theorem both_le {at_ : Int} {l : List Of} {need other both : Am} {b c : Bt} (hV : ∀ o ∈ l, VOf o) (hn : am12 need) (ho : am12 other) (hbo : am12 both) (he : both = ⟨need.g + other.g, need.q + other.q, need.s + other.s⟩) (hb : bst at_ (full l) need = some b) (hc : bst at_ (full l) other = some c) : ∃ d, bst at_ (full l) both = some d ∧ d.cost ≤ b.cost + c.cost := by
  obtain ⟨s1, s2, s3⟩ := bst_sound at_ (full l) need b (full_V hV) hn hb
  obtain ⟨t1, t2, t3⟩ := bst_sound at_ (full l) other c (full_V hV) ho hc
  have e1 : b.cost = coP l b.list := by rw [congrArg Bt.cost s3]; exact (full_hv l b.list).2
  have e2 : c.cost = coP l c.list := by rw [congrArg Bt.cost t3]; exact (full_hv l c.list).2
  obtain ⟨o1, o2, o3, o4, o5⟩ := both_ok hV s1 t1
  rw [(full_hv l b.list).1] at s2
  rw [(full_hv l c.list).1] at t2
  have s2 := leA_iff.1 s2
  have t2 := leA_iff.1 t2
  have hcov : leA both (hvP (full l) (bothP b.list c.list)) = true := by
    rw [(full_hv l _).1]
    unfold am12 at hbo
    refine leA_iff.2 ?_
    subst he
    simp only at hbo ⊢
    omega
  obtain ⟨d, f1, f2⟩ := bst_le (full_V hV) hbo o1 hcov
  rw [(full_hv l _).2] at f2
  exact ⟨d, f1, by omega⟩
theorem full_tar {l : List Of} (h : tarE l = 0) : tarE (full l) = 0 := by
  obtain ⟨h1, hV⟩ := tar_of h
  unfold tarE
  rw [if_neg (by unfold full; rw [List.length_map]; omega), if_neg]
  rw [List.all_eq_true.2 fun o ho => ofOk_iff.2 (full_V hV o ho)]
  decide
theorem ask_ok {l : List Of} {need : Am} {at_ : Int} (h : tarE l = 0) (hn : VAm need) (h1 : 0 ≤ at_) (h2 : at_ ≤ 23) : askE l need at_ = 0 := by
  unfold askE
  rw [if_neg (fun e => e h), if_neg]
  rw [amOk_iff.2 hn, inI_iff.2 ⟨h1, h2⟩]
  decide
theorem VAm_of {a : Am} (h : am12 a) : VAm a := ⟨h.1, h.2.1, h.2.2.1, h.2.2.2.1, h.2.2.2.2.1, h.2.2.2.2.2⟩
/-- What Best answers where what is asked is valid. -/
theorem bErr_cases {l : List Of} {need : Am} {at_ : Int} (h : askE l need at_ = 0) : (bErr l need at_ = 9 ∧ bst at_ l need = none) ∨ ∃ b, bst at_ l need = some b ∧ bErr l need at_ = 0 ∧ bCost (bR l need at_) = b.cost := by
  cases hb : bst at_ l need with
  | none => exact .inl ⟨(bR_none h hb).2, rfl⟩
  | some b => obtain ⟨e1, e2⟩ := bR_ok h hb; exact .inr ⟨b, rfl, e2, by rw [e1]; rfl⟩
end Go.Proofs.Ytjbmkdbgobmclaa
