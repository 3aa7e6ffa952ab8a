/- Own texts, laid together: B40 B41. Nothing is asked. -/
import Derived.Test.YtjbmkdbgobmclaaQ9
set_option linter.unusedSimpArgs false
set_option linter.unusedVariables false
/- Bill, plain: purchases, and the best one. -/
namespace Go.Proofs.Ytjbmkdbgobmclaa
open Go.RowKit Go.Shelf

theorem orL3 (a b c : Int) : orL [a, b, c] < 0 ↔ a < 0 ∨ (a = 0 ∧ (b < 0 ∨ (b = 0 ∧ c < 0))) := by
  unfold orL orL orL orL
  split <;> (try split) <;> (try split) <;> omega
theorem cmpL_neg : ∀ xs ys : List Int, cmpL ys xs = -cmpL xs ys
  | [], [] => rfl
  | [], _ :: _ => rfl
  | _ :: _, [] => rfl
  | x :: xs, y :: ys => by
    have ih := cmpL_neg xs ys
    unfold cmpL
    split <;> split <;> (try split) <;> omega
theorem cmpL_eq : ∀ xs ys : List Int, cmpL xs ys = 0 → xs = ys
  | [], [], _ => rfl
  | [], _ :: _, h => by cases h
  | _ :: _, [], h => by cases h
  | x :: xs, y :: ys, h => by
    unfold cmpL at h
    split at h
    · cases h
    · split at h
      · cases h
      · rw [cmpL_eq xs ys h, show x = y by omega]
theorem cmpL_self (xs : List Int) : cmpL xs xs = 0 := by have := cmpL_neg xs xs; omega
theorem cmpL_trans : ∀ xs ys zs : List Int, cmpL xs ys < 0 → cmpL ys zs < 0 → cmpL xs zs < 0
  | [], [], zs, h, _ => by simp [cmpL] at h
  | [], _ :: _, [], _, h => by simp [cmpL] at h
  | [], _ :: _, _ :: _, _, _ => by simp [cmpL]
  | _ :: _, [], _, h, _ => by simp [cmpL] at h
  | _ :: _, _ :: _, [], _, h => by simp [cmpL] at h
  | x :: xs, y :: ys, z :: zs, h1, h2 => by
    have ih := cmpL_trans xs ys zs
    unfold cmpL at h1 h2 ⊢
    split at h1
    · split at h2
      · rw [if_pos (by omega)]; decide
      · split at h2
        · omega
        · rw [if_pos (by omega)]; decide
    · split at h1
      · omega
      · split at h2
        · rw [if_pos (by omega)]; decide
        · split at h2
          · omega
          · rw [if_neg (by omega), if_neg (by omega)]; exact ih h1 h2
theorem befV_iff (x y : Bt) : befV x y < 0 ↔ x.cost - y.cost < 0 ∨ (x.cost - y.cost = 0 ∧ (x.many - y.many < 0 ∨ (x.many - y.many = 0 ∧ cmpL x.list y.list < 0))) := orL3 _ _ _
theorem befV_trans {x y z : Bt} (h1 : befV x y < 0) (h2 : befV y z < 0) : befV x z < 0 := by
  rw [befV_iff] at *
  have := cmpL_trans x.list y.list z.list
  omega
theorem befV_total {x y : Bt} (h1 : ¬ befV x y < 0) (h2 : ¬ befV y x < 0) : x = y := by
  rw [befV_iff] at *
  have h3 := cmpL_neg x.list y.list
  have h4 := cmpL_eq x.list y.list (by omega)
  obtain ⟨a, b, c⟩ := x
  obtain ⟨a', b', c'⟩ := y
  simp only at *
  subst h4
  rw [show b = b' by omega, show c = c' by omega]
theorem befV_irrefl (x : Bt) : ¬ befV x x < 0 := by
  rw [befV_iff]; have := cmpL_self x.list; omega
theorem befV_cmp {x y z : Bt} (h1 : ¬ befV x y < 0) (h2 : ¬ befV y z < 0) : ¬ befV x z < 0 := fun h => by
  -- x before z, z not behind y
  by_cases h3 : befV z y < 0
  · exact h1 (befV_trans h h3)
  · have := befV_total h2 h3
    subst this
    exact h1 h
theorem pickB_min {f : Nat → Option Bt} : ∀ {n i : Nat} {b : Bt}, i < n → f i = some b → ∃ c, pickB f n = some c ∧ ¬ befV b c < 0
  | n + 1, i, b, hi, h => by
    unfold pickB
    by_cases e : i = n
    · subst e
      rw [h]
      cases hp : pickB f i with
      | none => exact ⟨b, rfl, befV_irrefl b⟩
      | some d =>
        simp only
        split
        · exact ⟨b, rfl, befV_irrefl b⟩
        · rename_i h2; exact ⟨d, rfl, h2⟩
    · obtain ⟨c, h1, h2⟩ := pickB_min (f := f) (n := n) (i := i) (by omega) h
      rw [h1]
      cases hf : f n with
      | none => exact ⟨c, rfl, h2⟩
      | some d =>
        simp only
        split
        · rename_i h3; exact ⟨d, rfl, fun h4 => h2 (befV_trans h4 h3)⟩
        · exact ⟨c, rfl, h2⟩
/-- What a purchase has; what it costs; is it allowed, at an hour? -/
def hvP : List Of → List Int → Am
  | o :: os, n :: ns => ⟨n * o.am.g + (hvP os ns).g, n * o.am.q + (hvP os ns).q, n * o.am.s + (hvP os ns).s⟩
  | _, _ => ⟨0, 0, 0⟩
def coP : List Of → List Int → Int
  | o :: os, n :: ns => n * o.price + coP os ns
  | _, _ => 0
def alP (at_ : Int) : List Of → List Int → Bool
  | [], [] => true
  | o :: os, n :: ns => inI n 0 (mostV o at_) && alP at_ os ns
  | _, _ => false
def leA (a b : Am) : Bool := decide (a.g ≤ b.g ∧ a.q ≤ b.q ∧ a.s ≤ b.s)
def btP (l : List Of) (p : List Int) : Bt := ⟨p, coP l p, p.sum⟩
theorem alP_len {at_ : Int} : ∀ {l : List Of} {p : List Int}, alP at_ l p = true → p.length = l.length
  | [], [], _ => rfl
  | [], _ :: _, h => by cases h
  | _ :: _, [], h => by cases h
  | o :: os, n :: ns, h => by
    unfold alP at h
    rw [Bool.and_eq_true] at h
    rw [List.length_cons, List.length_cons, alP_len h.2]
theorem hvP_0 {at_ : Int} : ∀ {l : List Of} {p : List Int}, (∀ o ∈ l, VOf o) → alP at_ l p = true → 0 ≤ (hvP l p).g ∧ 0 ≤ (hvP l p).q ∧ 0 ≤ (hvP l p).s ∧ 0 ≤ coP l p ∧ coP l p ≤ 120000 * l.length ∧ (hvP l p).g ≤ 144 * l.length ∧ (hvP l p).q ≤ 144 * l.length ∧ (hvP l p).s ≤ 144 * l.length
  | [], [], _, _ => by simp [hvP, coP]
  | [], _ :: _, _, h => by cases h
  | _ :: _, [], _, h => by cases h
  | o :: os, n :: ns, hV, h => by
    have ho := hV o (List.mem_cons_self ..)
    unfold alP at h
    rw [Bool.and_eq_true, inI_iff] at h
    have hm := most_bd ho at_
    obtain ⟨i1, i2, i3, i4, i5, i6, i7, i8⟩ := hvP_0 (fun x hx => hV x (List.mem_cons_of_mem _ hx)) h.2
    have a1 := Int.mul_nonneg h.1.1 ho.am.g0
    have a2 := Int.mul_nonneg h.1.1 ho.am.q0
    have a3 := Int.mul_nonneg h.1.1 ho.am.s0
    have a4 := Int.mul_nonneg h.1.1 ho.p0
    have b1 : n * o.am.g ≤ 12 * 12 := Int.mul_le_mul (by omega) ho.am.g1 ho.am.g0 (by omega)
    have b2 : n * o.am.q ≤ 12 * 12 := Int.mul_le_mul (by omega) ho.am.q1 ho.am.q0 (by omega)
    have b3 : n * o.am.s ≤ 12 * 12 := Int.mul_le_mul (by omega) ho.am.s1 ho.am.s0 (by omega)
    have b4 : n * o.price ≤ 12 * 10000 := Int.mul_le_mul (by omega) ho.p1 ho.p0 (by omega)
    unfold hvP coP
    simp only [List.length_cons]
    omega
theorem wos_eq {need a : Am} (hn : am12 need) (ha : VAm a) : ∀ n : Nat, wos need a n = ⟨max 0 (need.g - n * a.g), max 0 (need.q - n * a.q), max 0 (need.s - n * a.s)⟩
  | 0 => by
    obtain ⟨h1, _, h2, _, h3, _⟩ := hn
    obtain ⟨g, q, s⟩ := need
    simp only at h1 h2 h3
    simp only [wos, Int.natCast_zero, Int.zero_mul, Int.sub_zero]
    congr 1 <;> omega
  | n + 1 => by
    have h1 := ha.g0
    have h2 := ha.q0
    have h3 := ha.s0
    have e : ∀ x : Int, ((n + 1 : Nat) : Int) * x = n * x + x := fun x => by rw [Int.natCast_add, Int.add_mul]; simp
    rw [wos, wos_eq hn ha n]
    unfold wo
    simp only [e]
    congr 1 <;> omega
theorem cov_step {need a H : Am} (hn : am12 need) (ha : VAm a) (h0 : 0 ≤ H.g ∧ 0 ≤ H.q ∧ 0 ≤ H.s) (n : Nat) : leA (wos need a n) H = leA need ⟨n * a.g + H.g, n * a.q + H.q, n * a.s + H.s⟩ := by
  rw [wos_eq hn ha]
  unfold leA
  simp only
  exact decide_eq_decide.2 (by omega)
theorem befV_add (o : Of) (n : Nat) (x y : Bt) : befV (addB o n x) (addB o n y) < 0 ↔ befV x y < 0 := by
  rw [befV_iff, befV_iff]
  unfold addB
  simp only
  rw [show cmpL ((n : Int) :: x.list) ((n : Int) :: y.list) = cmpL x.list y.list from cmpL_same [(n : Int)] _ _]
  omega
theorem bst_sound (at_ : Int) : ∀ (l : List Of) (need : Am) (b : Bt), (∀ o ∈ l, VOf o) → am12 need → bst at_ l need = some b → alP at_ l b.list = true ∧ leA need (hvP l b.list) = true ∧ b = btP l b.list
  | [], need, b, _, _, h => by
    unfold bst at h
    split at h
    · rename_i e; subst e; cases h; exact ⟨rfl, rfl, rfl⟩
    · cases h
  | o :: os, need, b, hV, hn, h => by
    have ho := hV o (List.mem_cons_self ..)
    have hm := most_bd ho at_
    have hV' : ∀ x ∈ os, VOf x := fun x hx => hV x (List.mem_cons_of_mem _ hx)
    unfold bst at h
    obtain ⟨i, hi, e⟩ := pickB_mem h
    obtain ⟨r, hr, rfl⟩ := Option.map_eq_some_iff.1 e
    obtain ⟨h1, h2, h3⟩ := bst_sound at_ os _ r hV' (wos12 hn ho.am i) hr
    have h0 := hvP_0 hV' h1
    rw [cov_step hn ho.am ⟨h0.1, h0.2.1, h0.2.2.1⟩] at h2
    refine ⟨?_, h2, ?_⟩
    · show (inI (i : Int) 0 (mostV o at_) && alP at_ os r.list) = true
      rw [h1, inI_iff.2 ⟨by omega, by omega⟩]; rfl
    · have hc : r.cost = coP os r.list := congrArg Bt.cost h3
      have hm2 : r.many = r.list.sum := congrArg Bt.many h3
      unfold addB btP
      simp only [coP, List.sum_cons, hc, hm2]
theorem bst_complete (at_ : Int) : ∀ (l : List Of) (need : Am) (p : List Int), (∀ o ∈ l, VOf o) → am12 need → alP at_ l p = true → leA need (hvP l p) = true → ∃ b, bst at_ l need = some b ∧ ¬ befV (btP l p) b < 0
  | [], need, [], _, hn, _, h => by
    obtain ⟨h1, _, h2, _, h3, _⟩ := hn
    have h := of_decide_eq_true h
    have : need = ⟨0, 0, 0⟩ := by
      obtain ⟨g, q, s⟩ := need
      simp only [hvP] at *
      congr 1 <;> omega
    unfold bst
    rw [if_pos this]
    exact ⟨_, rfl, befV_irrefl _⟩
  | [], _, _ :: _, _, _, h, _ => by cases h
  | _ :: _, _, [], _, _, h, _ => by cases h
  | o :: os, need, n :: ns, hV, hn, h1, h2 => by
    have ho := hV o (List.mem_cons_self ..)
    have hm := most_bd ho at_
    have hV' : ∀ x ∈ os, VOf x := fun x hx => hV x (List.mem_cons_of_mem _ hx)
    unfold alP at h1
    rw [Bool.and_eq_true, inI_iff] at h1
    obtain ⟨k, rfl⟩ : ∃ k : Nat, n = k := ⟨n.toNat, by omega⟩
    have h0 := hvP_0 hV' h1.2
    have h3 : leA (wos need o.am k) (hvP os ns) = true := by rw [cov_step hn ho.am ⟨h0.1, h0.2.1, h0.2.2.1⟩]; exact h2
    obtain ⟨r, e1, e2⟩ := bst_complete at_ os _ ns hV' (wos12 hn ho.am k) h1.2 h3
    obtain ⟨c, e3, e4⟩ := pickB_min (f := fun n => (bst at_ os (wos need o.am n)).map (addB o n)) (n := (mostV o at_).toNat + 1) (i := k) (b := addB o k r) (by omega) (by simp only [e1, Option.map_some])
    refine ⟨c, by unfold bst; exact e3, befV_cmp (y := addB o k r) ?_ e4⟩
    have e5 : btP (o :: os) ((k : Int) :: ns) = addB o k (btP os ns) := by unfold btP addB; simp only [coP, List.sum_cons]
    rw [e5, befV_add]
    exact e2
/-- The best purchase is the one that is not behind any other. -/
theorem bst_unique {at_ : Int} {l : List Of} {need : Am} {p : List Int} (hV : ∀ o ∈ l, VOf o) (hn : am12 need) (h1 : alP at_ l p = true) (h2 : leA need (hvP l p) = true) (h3 : ∀ q, alP at_ l q = true → leA need (hvP l q) = true → ¬ befV (btP l q) (btP l p) < 0) : bst at_ l need = some (btP l p) := by
  obtain ⟨b, e1, e2⟩ := bst_complete at_ l need p hV hn h1 h2
  obtain ⟨s1, s2, s3⟩ := bst_sound at_ l need b hV hn e1
  have h4 := h3 b.list s1 s2
  rw [← s3] at h4
  rw [e1, befV_total h4 e2]
end Go.Proofs.Ytjbmkdbgobmclaa

/- Walks of bill and of its reference: purchases. -/
namespace Go.Proofs.Ytjbmkdbgobmclaa
open Go.RowKit Go.Shelf

theorem hvP_app : ∀ (l : List Of) (p : List Int) (o : Of) (n : Int), l.length = p.length → hvP (l ++ [o]) (p ++ [n]) = ⟨(hvP l p).g + n * o.am.g, (hvP l p).q + n * o.am.q, (hvP l p).s + n * o.am.s⟩
  | [], [], o, n, _ => by simp [hvP]
  | x :: l, y :: p, o, n, h => by
    have ih := hvP_app l p o n (by simpa using h)
    rw [List.cons_append, List.cons_append, hvP, hvP, ih]
    simp only [Int.add_assoc]
theorem coP_app : ∀ (l : List Of) (p : List Int) (o : Of) (n : Int), l.length = p.length → coP (l ++ [o]) (p ++ [n]) = coP l p + n * o.price
  | [], [], o, n, _ => by simp [coP]
  | x :: l, y :: p, o, n, h => by
    have ih := coP_app l p o n (by simpa using h)
    rw [List.cons_append, List.cons_append, coP, coP, ih, Int.add_assoc]
theorem alP_app (at_ : Int) : ∀ (l : List Of) (p : List Int) (o : Of) (n : Int), l.length = p.length → alP at_ (l ++ [o]) (p ++ [n]) = (alP at_ l p && inI n 0 (mostV o at_))
  | [], [], o, n, _ => by simp [alP]
  | x :: l, y :: p, o, n, h => by
    have ih := alP_app at_ l p o n (by simpa using h)
    rw [List.cons_append, List.cons_append, alP, alP, ih, Bool.and_assoc]
theorem alP_get {at_ : Int} : ∀ {l : List Of} {p : List Int}, alP at_ l p = true → ∀ i (h1 : i < l.length) (h2 : i < p.length), inI p[i] 0 (mostV l[i] at_) = true
  | o :: os, n :: ns, h, i, h1, h2 => by
    unfold alP at h
    rw [Bool.and_eq_true] at h
    cases i with
    | zero => exact h.1
    | succ i => exact alP_get h.2 i (by simpa using h1) (by simpa using h2)
theorem alP_take {at_ : Int} : ∀ {l : List Of} {p : List Int} (i : Nat), alP at_ l p = true → alP at_ (l.take i) (p.take i) = true
  | [], [], i, _ => by simp [alP]
  | [], _ :: _, _, h => by cases h
  | _ :: _, [], _, h => by cases h
  | o :: os, n :: ns, 0, _ => rfl
  | o :: os, n :: ns, i + 1, h => by
    unfold alP at h
    rw [Bool.and_eq_true] at h
    rw [List.take_succ_cons, List.take_succ_cons, alP, h.1, alP_take i h.2]; rfl
theorem take_two {l : List Of} {p : List Int} {i : Nat} (h : p.length = l.length) (hi : i < l.length) : (l.take i).length = (p.take i).length := by rw [List.length_take, List.length_take]; omega
theorem hv_snoc {l : List Of} {p : List Int} {i : Nat} (h : p.length = l.length) (hi : i < l.length) : hvP (l.take (i + 1)) (p.take (i + 1)) = ⟨(hvP (l.take i) (p.take i)).g + p[i] * l[i].am.g, (hvP (l.take i) (p.take i)).q + p[i] * l[i].am.q, (hvP (l.take i) (p.take i)).s + p[i] * l[i].am.s⟩ := by
  rw [take_snoc hi, take_snoc (show i < p.length by omega), hvP_app _ _ _ _ (take_two h hi)]
theorem co_snoc {l : List Of} {p : List Int} {i : Nat} (h : p.length = l.length) (hi : i < l.length) : coP (l.take (i + 1)) (p.take (i + 1)) = coP (l.take i) (p.take i) + p[i] * l[i].price := by
  rw [take_snoc hi, take_snoc (show i < p.length by omega), coP_app _ _ _ _ (take_two h hi)]
theorem al_snoc {at_ : Int} {l : List Of} {p : List Int} {i : Nat} (h : p.length = l.length) (hi : i < l.length) : alP at_ (l.take (i + 1)) (p.take (i + 1)) = (alP at_ (l.take i) (p.take i) && inI p[i] 0 (mostV l[i] at_)) := by
  rw [take_snoc hi, take_snoc (show i < p.length by omega), alP_app _ _ _ _ _ (take_two h hi)]
theorem take_V {l : List Of} (hV : ∀ o ∈ l, VOf o) (i : Nat) : ∀ o ∈ l.take i, VOf o := fun o h => hV o (List.mem_of_mem_take h)
/-- What one offer, bought some times, has and costs. -/
theorem buy_bd {o : Of} (ho : VOf o) {at_ n : Int} (h : inI n 0 (mostV o at_) = true) : 0 ≤ n ∧ n ≤ 12 ∧ 0 ≤ n * o.am.g ∧ n * o.am.g ≤ 144 ∧ 0 ≤ n * o.am.q ∧ n * o.am.q ≤ 144 ∧ 0 ≤ n * o.am.s ∧ n * o.am.s ≤ 144 ∧ 0 ≤ n * o.price ∧ n * o.price ≤ 120000 := by
  have h := inI_iff.1 h
  have hm := most_bd ho at_
  have a1 := Int.mul_nonneg h.1 ho.am.g0
  have a2 := Int.mul_nonneg h.1 ho.am.q0
  have a3 := Int.mul_nonneg h.1 ho.am.s0
  have a4 := Int.mul_nonneg h.1 ho.p0
  have b1 : n * o.am.g ≤ 12 * 12 := Int.mul_le_mul (by omega) ho.am.g1 ho.am.g0 (by omega)
  have b2 : n * o.am.q ≤ 12 * 12 := Int.mul_le_mul (by omega) ho.am.q1 ho.am.q0 (by omega)
  have b3 : n * o.am.s ≤ 12 * 12 := Int.mul_le_mul (by omega) ho.am.s1 ho.am.s0 (by omega)
  have b4 : n * o.price ≤ 12 * 10000 := Int.mul_le_mul (by omega) ho.p1 ho.p0 (by omega)
  omega
set_option maxRecDepth 100000 in
theorem Fault_j (a : Option Addr) (c : Nat) (ls : List Of) (hl : ls.length ≤ 1000) : Cv Try.prog 35 [.slice a ls.length c] (KSl a ls.length c encO ls) (I (tarE ls)) := by
  refine Cx_of Try.func35 rfl Try.ntmps35 rfl fun w0 M0 => ?_
  refine JC_seq ?_
  refine JC_region ?_
  refine JL_pd rfl (det_assign rfl) ?_
  refine JL_nil ?_
  refine JE_seq ?_
  refine JC_seq ?_
  refine JC_seq ?_
  refine JC_region ?_
  refine JL_pd rfl (det_move rfl) ?_
  refine JL_pd rfl (det_len rfl Try.runUnderlying50) ?_
  refine JL_pd rfl (det_gtr rfl rfl) ?_
  refine JL_nil ?_
  refine JE_seq ?_
  -- stop: cond
  refine JC_if rfl (fun h0 => ?_) (fun h0 => ?_)
  · refine JC_seq ?_
    refine JC_region ?_
    refine JL_pd rfl (det_assign rfl) ?_
    refine JL_nil ?_
    refine JE_seq ?_
    refine JC_ret ?_
    refine JE_seq_ret ?_
    -- stop: out
    refine JE_out (.inl rfl) () (results1 Try.results35 (res_tmp rfl)) (by unfold tarE; rw [if_pos (by omega)]) (List.Perm.refl _) (fun _ _ => trivial)
  · refine JC_skip ?_
    refine JE_seq ?_
    refine JC_seq ?_
    refine JC_seq ?_
    refine JC_region ?_
    refine JL_pd rfl (det_assign rfl) ?_
    refine JL_nil ?_
    refine JE_seq ?_
    refine JC_block ?_
    -- stop: loop
    refine JC_loopF (γ := Nat) (fun i => i ≤ ls.length ∧ (ls.take i).all ofOk = true) (fun i => [(3, I i)]) (fun _ => []) (fun i => ls.length - i) 0 ⟨Nat.zero_le _, rfl⟩ (stsub_consI rfl rfl stsub_nil) ht_nil ?_
    rintro i ⟨hi, ha⟩ K hK
    dsimp only [List.cons_append, List.nil_append]
    refine JC_seq ?_
    refine JC_seq ?_
    refine JC_region ?_
    refine JL_pd rfl (det_move rfl) ?_
    refine JL_pd rfl (det_move rfl) ?_
    refine JL_pd rfl (det_len rfl Try.runUnderlying50) ?_
    refine JL_pd rfl (det_lss rfl rfl) ?_
    refine JL_nil ?_
    refine JE_seq ?_
    -- stop: cond
    refine JC_if rfl (fun h1 => ?_) (fun h1 => ?_)
    · have hi2 : i < ls.length := by omega
      have heq : (!inI ls[i].price 0 10000 || !amOk ls[i].am || !inI ls[i].lo 0 ls[i].hi || decide (23 < ls[i].hi) || !inI ls[i].most 0 12) = !ofOk ls[i] := by
        unfold ofOk inI
        generalize amOk ls[i].am = A
        rw [Bool.eq_iff_iff]
        cases A <;> simp <;> omega
      refine JC_skip ?_
      refine JE_seq ?_
      refine JC_seq ?_
      refine JC_block ?_
      refine JC_seq ?_
      refine JC_region ?_
      refine JL_pd rfl (det_move rfl) ?_
      refine JL_pd rfl (det_move rfl) ?_
      refine JL_dt rfl (det_indexAddr rfl rfl (by first | rfl | omega) (by first | assumption | omega | decide) Try.runUnderlying50 Try.sizeOf54) ?_
      refine JL_dt rfl (det_loadEA rfl (by first | assumption | omega | decide) Try.isAgg54 Try.sizeOf54 rfl rfl rfl) ?_
      refine JL_step rfl rfl rfl (jo_alloc0 Try.zeroValue54 rfl) fun b4 => ?_
      refine JL_step0 rfl rfl (jo_store rfl rfl rfl (by first | (simp only [splice_norm]; done) | (simp only [splice_norm]; rfl) | rfl) Try.sizeOf54 rfl rfl) fun _ => ?_
      refine JL_nil ?_
      refine JE_seq ?_
      refine JC_seq ?_
      refine JC_region ?_
      refine JL_pd rfl (det_fieldAddr rfl fo_54_0) ?_
      refine JL_dt rfl (det_loadK rfl Try.isAgg3 rfl) ?_
      refine JL_step rfl rfl rfl (jo_callv rfl rfl Try.call27 rfl (In_j _ _ _)) fun _ => ?_
      refine JL_pd rfl (det_not rfl) ?_
      refine JL_pd rfl (det_move rfl) ?_
      -- stop: guard 4
      refine JL_join1 27 49 (.bool (!inI ls[i].price 0 10000 || !amOk ls[i].am || !inI ls[i].lo 0 ls[i].hi || decide (23 < ls[i].hi) || !inI ls[i].most 0 12)) (fun hj => ?_) ?_
      · refine JL_split (d0 := 22) rfl (fun q1 => ?_) (fun q1 => ?_)
        · refine JL_skip rfl rfl q1 rfl ?_
          refine JL_skip rfl rfl q1 rfl ?_
          refine JL_skip rfl rfl q1 rfl ?_
          refine JL_skip rfl rfl q1 rfl ?_
          refine JL_pd rfl (det_pick_t rfl q1 rfl) ?_
          refine JL_pd rfl (det_move rfl) ?_
          refine JL_split (d0 := 28) rfl (fun q2 => ?_) (fun q2 => ?_)
          · refine JL_skip rfl rfl q2 rfl ?_
            refine JL_skip rfl rfl q2 rfl ?_
            refine JL_skip rfl rfl q2 rfl ?_
            refine JL_skip rfl rfl q2 rfl ?_
            refine JL_skip rfl rfl q2 rfl ?_
            refine JL_skip rfl rfl q2 rfl ?_
            refine JL_skip rfl rfl q2 rfl ?_
            refine JL_skip rfl rfl q2 rfl ?_
            refine JL_pd rfl (det_pick_t rfl q2 rfl) ?_
            refine JL_pd rfl (det_move rfl) ?_
            refine JL_split (d0 := 38) rfl (fun q3 => ?_) (fun q3 => ?_)
            · refine JL_skip rfl rfl q3 rfl ?_
              refine JL_skip rfl rfl q3 rfl ?_
              refine JL_skip rfl rfl q3 rfl ?_
              refine JL_skip rfl rfl q3 rfl ?_
              refine JL_pd rfl (det_pick_t rfl q3 rfl) ?_
              refine JL_pd rfl (det_move rfl) ?_
              refine JL_split (d0 := 44) rfl (fun q4 => ?_) (fun q4 => ?_)
              · refine JL_skip rfl rfl q4 rfl ?_
                refine JL_skip rfl rfl q4 rfl ?_
                refine JL_skip rfl rfl q4 rfl ?_
                refine JL_skip rfl rfl q4 rfl ?_
                refine JL_pd rfl (det_pick_t rfl q4 rfl) ?_
                exact hj (by kernel_rfl) (stsub_consB rfl (by clear hj; first | rfl | (simp only [q1, q2, q3, q4, Bool.and_true, Bool.true_and, Bool.false_and, Bool.and_false, Bool.or_true, Bool.true_or, Bool.or_false, Bool.false_or, Bool.not_true, Bool.not_false]; done) | (simp [q1, q2, q3, q4]; done) | (simp at q1; done) | (simp at q2; done) | (simp at q3; done) | (simp at q4; done) | (simp [q1, q2, q3, q4] <;> omega) | (exfalso; simp at q1 q2 q3 q4; omega) | (simp [q2, q3, q4] at q1; done) | (simp [q1, q3, q4] at q2; done) | (simp [q1, q2, q4] at q3; done) | (simp [q1, q2, q3] at q4; done)) stsub_nil)
              · refine JL_guard rfl rfl q4 ?_
                refine JL_pd rfl (det_fieldAddr rfl fo_54_3) ?_
                refine JL_guard rfl rfl q4 ?_
                refine JL_dt rfl (det_loadK rfl Try.isAgg3 rfl) ?_
                refine JL_guard rfl rfl q4 ?_
                refine JL_step rfl rfl rfl (jo_callv rfl rfl Try.call27 rfl (In_j _ _ _)) fun _ => ?_
                refine JL_guard rfl rfl q4 ?_
                refine JL_pd rfl (det_not rfl) ?_
                refine JL_pd rfl (det_pick_f rfl q4 rfl) ?_
                exact hj (by kernel_rfl) (stsub_consB rfl (by clear hj; first | rfl | (simp only [q1, q2, q3, q4, Bool.and_true, Bool.true_and, Bool.false_and, Bool.and_false, Bool.or_true, Bool.true_or, Bool.or_false, Bool.false_or, Bool.not_true, Bool.not_false]; done) | (simp [q1, q2, q3, q4]; done) | (simp at q1; done) | (simp at q2; done) | (simp at q3; done) | (simp at q4; done) | (simp [q1, q2, q3, q4] <;> omega) | (exfalso; simp at q1 q2 q3 q4; omega) | (simp [q2, q3, q4] at q1; done) | (simp [q1, q3, q4] at q2; done) | (simp [q1, q2, q4] at q3; done) | (simp [q1, q2, q3] at q4; done)) stsub_nil)
            · refine JL_guard rfl rfl q3 ?_
              refine JL_pd rfl (det_fieldAddr rfl fo_54_2) ?_
              refine JL_guard rfl rfl q3 ?_
              refine JL_pd rfl (det_fieldAddr rfl fo_47_1) ?_
              refine JL_guard rfl rfl q3 ?_
              refine JL_dt rfl (det_loadK rfl Try.isAgg3 rfl) ?_
              refine JL_guard rfl rfl q3 ?_
              refine JL_pd rfl (det_gtr rfl rfl) ?_
              refine JL_pd rfl (det_pick_f rfl q3 rfl) ?_
              refine JL_pd rfl (det_move rfl) ?_
              refine JL_split (d0 := 44) rfl (fun q5 => ?_) (fun q5 => ?_)
              · refine JL_skip rfl rfl q5 rfl ?_
                refine JL_skip rfl rfl q5 rfl ?_
                refine JL_skip rfl rfl q5 rfl ?_
                refine JL_skip rfl rfl q5 rfl ?_
                refine JL_pd rfl (det_pick_t rfl q5 rfl) ?_
                exact hj (by kernel_rfl) (stsub_consB rfl (by clear hj; first | rfl | (simp only [q1, q2, q3, q5, Bool.and_true, Bool.true_and, Bool.false_and, Bool.and_false, Bool.or_true, Bool.true_or, Bool.or_false, Bool.false_or, Bool.not_true, Bool.not_false]; done) | (simp [q1, q2, q3, q5]; done) | (simp at q1; done) | (simp at q2; done) | (simp at q3; done) | (simp at q5; done) | (simp [q1, q2, q3, q5] <;> omega) | (exfalso; simp at q1 q2 q3 q5; omega) | (simp [q2, q3, q5] at q1; done) | (simp [q1, q3, q5] at q2; done) | (simp [q1, q2, q5] at q3; done) | (simp [q1, q2, q3] at q5; done)) stsub_nil)
              · refine JL_guard rfl rfl q5 ?_
                refine JL_pd rfl (det_fieldAddr rfl fo_54_3) ?_
                refine JL_guard rfl rfl q5 ?_
                refine JL_dt rfl (det_loadK rfl Try.isAgg3 rfl) ?_
                refine JL_guard rfl rfl q5 ?_
                refine JL_step rfl rfl rfl (jo_callv rfl rfl Try.call27 rfl (In_j _ _ _)) fun _ => ?_
                refine JL_guard rfl rfl q5 ?_
                refine JL_pd rfl (det_not rfl) ?_
                refine JL_pd rfl (det_pick_f rfl q5 rfl) ?_
                exact hj (by kernel_rfl) (stsub_consB rfl (by clear hj; first | rfl | (simp only [q1, q2, q3, q5, Bool.and_true, Bool.true_and, Bool.false_and, Bool.and_false, Bool.or_true, Bool.true_or, Bool.or_false, Bool.false_or, Bool.not_true, Bool.not_false]; done) | (simp [q1, q2, q3, q5]; done) | (simp at q1; done) | (simp at q2; done) | (simp at q3; done) | (simp at q5; done) | (simp [q1, q2, q3, q5] <;> omega) | (exfalso; simp at q1 q2 q3 q5; omega) | (simp [q2, q3, q5] at q1; done) | (simp [q1, q3, q5] at q2; done) | (simp [q1, q2, q5] at q3; done) | (simp [q1, q2, q3] at q5; done)) stsub_nil)
          · refine JL_guard rfl rfl q2 ?_
            refine JL_pd rfl (det_fieldAddr rfl fo_54_2) ?_
            refine JL_guard rfl rfl q2 ?_
            refine JL_pd rfl (det_fieldAddr rfl fo_47_0) ?_
            refine JL_guard rfl rfl q2 ?_
            refine JL_dt rfl (det_loadK rfl Try.isAgg3 rfl) ?_
            refine JL_guard rfl rfl q2 ?_
            refine JL_pd rfl (det_fieldAddr rfl fo_54_2) ?_
            refine JL_guard rfl rfl q2 ?_
            refine JL_pd rfl (det_fieldAddr rfl fo_47_1) ?_
            refine JL_guard rfl rfl q2 ?_
            refine JL_dt rfl (det_loadK rfl Try.isAgg3 rfl) ?_
            refine JL_guard rfl rfl q2 ?_
            refine JL_step rfl rfl rfl (jo_callv rfl rfl Try.call27 rfl (In_j _ _ _)) fun _ => ?_
            refine JL_guard rfl rfl q2 ?_
            refine JL_pd rfl (det_not rfl) ?_
            refine JL_pd rfl (det_pick_f rfl q2 rfl) ?_
            refine JL_pd rfl (det_move rfl) ?_
            refine JL_split (d0 := 38) rfl (fun q6 => ?_) (fun q6 => ?_)
            · refine JL_skip rfl rfl q6 rfl ?_
              refine JL_skip rfl rfl q6 rfl ?_
              refine JL_skip rfl rfl q6 rfl ?_
              refine JL_skip rfl rfl q6 rfl ?_
              refine JL_pd rfl (det_pick_t rfl q6 rfl) ?_
              refine JL_pd rfl (det_move rfl) ?_
              refine JL_split (d0 := 44) rfl (fun q7 => ?_) (fun q7 => ?_)
              · refine JL_skip rfl rfl q7 rfl ?_
                refine JL_skip rfl rfl q7 rfl ?_
                refine JL_skip rfl rfl q7 rfl ?_
                refine JL_skip rfl rfl q7 rfl ?_
                refine JL_pd rfl (det_pick_t rfl q7 rfl) ?_
                exact hj (by kernel_rfl) (stsub_consB rfl (by clear hj; first | rfl | (simp only [q1, q2, q6, q7, Bool.and_true, Bool.true_and, Bool.false_and, Bool.and_false, Bool.or_true, Bool.true_or, Bool.or_false, Bool.false_or, Bool.not_true, Bool.not_false]; done) | (simp [q1, q2, q6, q7]; done) | (simp at q1; done) | (simp at q2; done) | (simp at q6; done) | (simp at q7; done) | (simp [q1, q2, q6, q7] <;> omega) | (exfalso; simp at q1 q2 q6 q7; omega) | (simp [q2, q6, q7] at q1; done) | (simp [q1, q6, q7] at q2; done) | (simp [q1, q2, q7] at q6; done) | (simp [q1, q2, q6] at q7; done)) stsub_nil)
              · refine JL_guard rfl rfl q7 ?_
                refine JL_pd rfl (det_fieldAddr rfl fo_54_3) ?_
                refine JL_guard rfl rfl q7 ?_
                refine JL_dt rfl (det_loadK rfl Try.isAgg3 rfl) ?_
                refine JL_guard rfl rfl q7 ?_
                refine JL_step rfl rfl rfl (jo_callv rfl rfl Try.call27 rfl (In_j _ _ _)) fun _ => ?_
                refine JL_guard rfl rfl q7 ?_
                refine JL_pd rfl (det_not rfl) ?_
                refine JL_pd rfl (det_pick_f rfl q7 rfl) ?_
                exact hj (by kernel_rfl) (stsub_consB rfl (by clear hj; first | rfl | (simp only [q1, q2, q6, q7, Bool.and_true, Bool.true_and, Bool.false_and, Bool.and_false, Bool.or_true, Bool.true_or, Bool.or_false, Bool.false_or, Bool.not_true, Bool.not_false]; done) | (simp [q1, q2, q6, q7]; done) | (simp at q1; done) | (simp at q2; done) | (simp at q6; done) | (simp at q7; done) | (simp [q1, q2, q6, q7] <;> omega) | (exfalso; simp at q1 q2 q6 q7; omega) | (simp [q2, q6, q7] at q1; done) | (simp [q1, q6, q7] at q2; done) | (simp [q1, q2, q7] at q6; done) | (simp [q1, q2, q6] at q7; done)) stsub_nil)
            · refine JL_guard rfl rfl q6 ?_
              refine JL_pd rfl (det_fieldAddr rfl fo_54_2) ?_
              refine JL_guard rfl rfl q6 ?_
              refine JL_pd rfl (det_fieldAddr rfl fo_47_1) ?_
              refine JL_guard rfl rfl q6 ?_
              refine JL_dt rfl (det_loadK rfl Try.isAgg3 rfl) ?_
              refine JL_guard rfl rfl q6 ?_
              refine JL_pd rfl (det_gtr rfl rfl) ?_
              refine JL_pd rfl (det_pick_f rfl q6 rfl) ?_
              refine JL_pd rfl (det_move rfl) ?_
              refine JL_split (d0 := 44) rfl (fun q8 => ?_) (fun q8 => ?_)
              · refine JL_skip rfl rfl q8 rfl ?_
                refine JL_skip rfl rfl q8 rfl ?_
                refine JL_skip rfl rfl q8 rfl ?_
                refine JL_skip rfl rfl q8 rfl ?_
                refine JL_pd rfl (det_pick_t rfl q8 rfl) ?_
                exact hj (by kernel_rfl) (stsub_consB rfl (by clear hj; first | rfl | (simp only [q1, q2, q6, q8, Bool.and_true, Bool.true_and, Bool.false_and, Bool.and_false, Bool.or_true, Bool.true_or, Bool.or_false, Bool.false_or, Bool.not_true, Bool.not_false]; done) | (simp [q1, q2, q6, q8]; done) | (simp at q1; done) | (simp at q2; done) | (simp at q6; done) | (simp at q8; done) | (simp [q1, q2, q6, q8] <;> omega) | (exfalso; simp at q1 q2 q6 q8; omega) | (simp [q2, q6, q8] at q1; done) | (simp [q1, q6, q8] at q2; done) | (simp [q1, q2, q8] at q6; done) | (simp [q1, q2, q6] at q8; done)) stsub_nil)
              · refine JL_guard rfl rfl q8 ?_
                refine JL_pd rfl (det_fieldAddr rfl fo_54_3) ?_
                refine JL_guard rfl rfl q8 ?_
                refine JL_dt rfl (det_loadK rfl Try.isAgg3 rfl) ?_
                refine JL_guard rfl rfl q8 ?_
                refine JL_step rfl rfl rfl (jo_callv rfl rfl Try.call27 rfl (In_j _ _ _)) fun _ => ?_
                refine JL_guard rfl rfl q8 ?_
                refine JL_pd rfl (det_not rfl) ?_
                refine JL_pd rfl (det_pick_f rfl q8 rfl) ?_
                exact hj (by kernel_rfl) (stsub_consB rfl (by clear hj; first | rfl | (simp only [q1, q2, q6, q8, Bool.and_true, Bool.true_and, Bool.false_and, Bool.and_false, Bool.or_true, Bool.true_or, Bool.or_false, Bool.false_or, Bool.not_true, Bool.not_false]; done) | (simp [q1, q2, q6, q8]; done) | (simp at q1; done) | (simp at q2; done) | (simp at q6; done) | (simp at q8; done) | (simp [q1, q2, q6, q8] <;> omega) | (exfalso; simp at q1 q2 q6 q8; omega) | (simp [q2, q6, q8] at q1; done) | (simp [q1, q6, q8] at q2; done) | (simp [q1, q2, q8] at q6; done) | (simp [q1, q2, q6] at q8; done)) stsub_nil)
        · refine JL_guard rfl rfl q1 ?_
          refine JL_pd rfl (det_fieldAddr rfl fo_54_1) ?_
          refine JL_guard rfl rfl q1 ?_
          refine JL_dt rfl (det_loadKA rfl Try.isAgg52 Try.sizeOf52 rfl rfl) ?_
          refine JL_guard rfl rfl q1 ?_
          refine JL_step rfl rfl rfl (jo_callv rfl rfl Try.call36 rfl (IsAmount_j _)) fun _ => ?_
          refine JL_guard rfl rfl q1 ?_
          refine JL_pd rfl (det_not rfl) ?_
          refine JL_pd rfl (det_pick_f rfl q1 rfl) ?_
          refine JL_pd rfl (det_move rfl) ?_
          refine JL_split (d0 := 28) rfl (fun q9 => ?_) (fun q9 => ?_)
          · refine JL_skip rfl rfl q9 rfl ?_
            refine JL_skip rfl rfl q9 rfl ?_
            refine JL_skip rfl rfl q9 rfl ?_
            refine JL_skip rfl rfl q9 rfl ?_
            refine JL_skip rfl rfl q9 rfl ?_
            refine JL_skip rfl rfl q9 rfl ?_
            refine JL_skip rfl rfl q9 rfl ?_
            refine JL_skip rfl rfl q9 rfl ?_
            refine JL_pd rfl (det_pick_t rfl q9 rfl) ?_
            refine JL_pd rfl (det_move rfl) ?_
            refine JL_split (d0 := 38) rfl (fun q10 => ?_) (fun q10 => ?_)
            · refine JL_skip rfl rfl q10 rfl ?_
              refine JL_skip rfl rfl q10 rfl ?_
              refine JL_skip rfl rfl q10 rfl ?_
              refine JL_skip rfl rfl q10 rfl ?_
              refine JL_pd rfl (det_pick_t rfl q10 rfl) ?_
              refine JL_pd rfl (det_move rfl) ?_
              refine JL_split (d0 := 44) rfl (fun q11 => ?_) (fun q11 => ?_)
              · refine JL_skip rfl rfl q11 rfl ?_
                refine JL_skip rfl rfl q11 rfl ?_
                refine JL_skip rfl rfl q11 rfl ?_
                refine JL_skip rfl rfl q11 rfl ?_
                refine JL_pd rfl (det_pick_t rfl q11 rfl) ?_
                exact hj (by kernel_rfl) (stsub_consB rfl (by clear hj; first | rfl | (simp only [q1, q9, q10, q11, Bool.and_true, Bool.true_and, Bool.false_and, Bool.and_false, Bool.or_true, Bool.true_or, Bool.or_false, Bool.false_or, Bool.not_true, Bool.not_false]; done) | (simp [q1, q9, q10, q11]; done) | (simp at q1; done) | (simp at q9; done) | (simp at q10; done) | (simp at q11; done) | (simp [q1, q9, q10, q11] <;> omega) | (exfalso; simp at q1 q9 q10 q11; omega) | (simp [q9, q10, q11] at q1; done) | (simp [q1, q10, q11] at q9; done) | (simp [q1, q9, q11] at q10; done) | (simp [q1, q9, q10] at q11; done)) stsub_nil)
              · refine JL_guard rfl rfl q11 ?_
                refine JL_pd rfl (det_fieldAddr rfl fo_54_3) ?_
                refine JL_guard rfl rfl q11 ?_
                refine JL_dt rfl (det_loadK rfl Try.isAgg3 rfl) ?_
                refine JL_guard rfl rfl q11 ?_
                refine JL_step rfl rfl rfl (jo_callv rfl rfl Try.call27 rfl (In_j _ _ _)) fun _ => ?_
                refine JL_guard rfl rfl q11 ?_
                refine JL_pd rfl (det_not rfl) ?_
                refine JL_pd rfl (det_pick_f rfl q11 rfl) ?_
                exact hj (by kernel_rfl) (stsub_consB rfl (by clear hj; first | rfl | (simp only [q1, q9, q10, q11, Bool.and_true, Bool.true_and, Bool.false_and, Bool.and_false, Bool.or_true, Bool.true_or, Bool.or_false, Bool.false_or, Bool.not_true, Bool.not_false]; done) | (simp [q1, q9, q10, q11]; done) | (simp at q1; done) | (simp at q9; done) | (simp at q10; done) | (simp at q11; done) | (simp [q1, q9, q10, q11] <;> omega) | (exfalso; simp at q1 q9 q10 q11; omega) | (simp [q9, q10, q11] at q1; done) | (simp [q1, q10, q11] at q9; done) | (simp [q1, q9, q11] at q10; done) | (simp [q1, q9, q10] at q11; done)) stsub_nil)
            · refine JL_guard rfl rfl q10 ?_
              refine JL_pd rfl (det_fieldAddr rfl fo_54_2) ?_
              refine JL_guard rfl rfl q10 ?_
              refine JL_pd rfl (det_fieldAddr rfl fo_47_1) ?_
              refine JL_guard rfl rfl q10 ?_
              refine JL_dt rfl (det_loadK rfl Try.isAgg3 rfl) ?_
              refine JL_guard rfl rfl q10 ?_
              refine JL_pd rfl (det_gtr rfl rfl) ?_
              refine JL_pd rfl (det_pick_f rfl q10 rfl) ?_
              refine JL_pd rfl (det_move rfl) ?_
              refine JL_split (d0 := 44) rfl (fun q12 => ?_) (fun q12 => ?_)
              · refine JL_skip rfl rfl q12 rfl ?_
                refine JL_skip rfl rfl q12 rfl ?_
                refine JL_skip rfl rfl q12 rfl ?_
                refine JL_skip rfl rfl q12 rfl ?_
                refine JL_pd rfl (det_pick_t rfl q12 rfl) ?_
                exact hj (by kernel_rfl) (stsub_consB rfl (by clear hj; first | rfl | (simp only [q1, q9, q10, q12, Bool.and_true, Bool.true_and, Bool.false_and, Bool.and_false, Bool.or_true, Bool.true_or, Bool.or_false, Bool.false_or, Bool.not_true, Bool.not_false]; done) | (simp [q1, q9, q10, q12]; done) | (simp at q1; done) | (simp at q9; done) | (simp at q10; done) | (simp at q12; done) | (simp [q1, q9, q10, q12] <;> omega) | (exfalso; simp at q1 q9 q10 q12; omega) | (simp [q9, q10, q12] at q1; done) | (simp [q1, q10, q12] at q9; done) | (simp [q1, q9, q12] at q10; done) | (simp [q1, q9, q10] at q12; done)) stsub_nil)
              · refine JL_guard rfl rfl q12 ?_
                refine JL_pd rfl (det_fieldAddr rfl fo_54_3) ?_
                refine JL_guard rfl rfl q12 ?_
                refine JL_dt rfl (det_loadK rfl Try.isAgg3 rfl) ?_
                refine JL_guard rfl rfl q12 ?_
                refine JL_step rfl rfl rfl (jo_callv rfl rfl Try.call27 rfl (In_j _ _ _)) fun _ => ?_
                refine JL_guard rfl rfl q12 ?_
                refine JL_pd rfl (det_not rfl) ?_
                refine JL_pd rfl (det_pick_f rfl q12 rfl) ?_
                exact hj (by kernel_rfl) (stsub_consB rfl (by clear hj; first | rfl | (simp only [q1, q9, q10, q12, Bool.and_true, Bool.true_and, Bool.false_and, Bool.and_false, Bool.or_true, Bool.true_or, Bool.or_false, Bool.false_or, Bool.not_true, Bool.not_false]; done) | (simp [q1, q9, q10, q12]; done) | (simp at q1; done) | (simp at q9; done) | (simp at q10; done) | (simp at q12; done) | (simp [q1, q9, q10, q12] <;> omega) | (exfalso; simp at q1 q9 q10 q12; omega) | (simp [q9, q10, q12] at q1; done) | (simp [q1, q10, q12] at q9; done) | (simp [q1, q9, q12] at q10; done) | (simp [q1, q9, q10] at q12; done)) stsub_nil)
          · refine JL_guard rfl rfl q9 ?_
            refine JL_pd rfl (det_fieldAddr rfl fo_54_2) ?_
            refine JL_guard rfl rfl q9 ?_
            refine JL_pd rfl (det_fieldAddr rfl fo_47_0) ?_
            refine JL_guard rfl rfl q9 ?_
            refine JL_dt rfl (det_loadK rfl Try.isAgg3 rfl) ?_
            refine JL_guard rfl rfl q9 ?_
            refine JL_pd rfl (det_fieldAddr rfl fo_54_2) ?_
            refine JL_guard rfl rfl q9 ?_
            refine JL_pd rfl (det_fieldAddr rfl fo_47_1) ?_
            refine JL_guard rfl rfl q9 ?_
            refine JL_dt rfl (det_loadK rfl Try.isAgg3 rfl) ?_
            refine JL_guard rfl rfl q9 ?_
            refine JL_step rfl rfl rfl (jo_callv rfl rfl Try.call27 rfl (In_j _ _ _)) fun _ => ?_
            refine JL_guard rfl rfl q9 ?_
            refine JL_pd rfl (det_not rfl) ?_
            refine JL_pd rfl (det_pick_f rfl q9 rfl) ?_
            refine JL_pd rfl (det_move rfl) ?_
            refine JL_split (d0 := 38) rfl (fun q13 => ?_) (fun q13 => ?_)
            · refine JL_skip rfl rfl q13 rfl ?_
              refine JL_skip rfl rfl q13 rfl ?_
              refine JL_skip rfl rfl q13 rfl ?_
              refine JL_skip rfl rfl q13 rfl ?_
              refine JL_pd rfl (det_pick_t rfl q13 rfl) ?_
              refine JL_pd rfl (det_move rfl) ?_
              refine JL_split (d0 := 44) rfl (fun q14 => ?_) (fun q14 => ?_)
              · refine JL_skip rfl rfl q14 rfl ?_
                refine JL_skip rfl rfl q14 rfl ?_
                refine JL_skip rfl rfl q14 rfl ?_
                refine JL_skip rfl rfl q14 rfl ?_
                refine JL_pd rfl (det_pick_t rfl q14 rfl) ?_
                exact hj (by kernel_rfl) (stsub_consB rfl (by clear hj; first | rfl | (simp only [q1, q9, q13, q14, Bool.and_true, Bool.true_and, Bool.false_and, Bool.and_false, Bool.or_true, Bool.true_or, Bool.or_false, Bool.false_or, Bool.not_true, Bool.not_false]; done) | (simp [q1, q9, q13, q14]; done) | (simp at q1; done) | (simp at q9; done) | (simp at q13; done) | (simp at q14; done) | (simp [q1, q9, q13, q14] <;> omega) | (exfalso; simp at q1 q9 q13 q14; omega) | (simp [q9, q13, q14] at q1; done) | (simp [q1, q13, q14] at q9; done) | (simp [q1, q9, q14] at q13; done) | (simp [q1, q9, q13] at q14; done)) stsub_nil)
              · refine JL_guard rfl rfl q14 ?_
                refine JL_pd rfl (det_fieldAddr rfl fo_54_3) ?_
                refine JL_guard rfl rfl q14 ?_
                refine JL_dt rfl (det_loadK rfl Try.isAgg3 rfl) ?_
                refine JL_guard rfl rfl q14 ?_
                refine JL_step rfl rfl rfl (jo_callv rfl rfl Try.call27 rfl (In_j _ _ _)) fun _ => ?_
                refine JL_guard rfl rfl q14 ?_
                refine JL_pd rfl (det_not rfl) ?_
                refine JL_pd rfl (det_pick_f rfl q14 rfl) ?_
                exact hj (by kernel_rfl) (stsub_consB rfl (by clear hj; first | rfl | (simp only [q1, q9, q13, q14, Bool.and_true, Bool.true_and, Bool.false_and, Bool.and_false, Bool.or_true, Bool.true_or, Bool.or_false, Bool.false_or, Bool.not_true, Bool.not_false]; done) | (simp [q1, q9, q13, q14]; done) | (simp at q1; done) | (simp at q9; done) | (simp at q13; done) | (simp at q14; done) | (simp [q1, q9, q13, q14] <;> omega) | (exfalso; simp at q1 q9 q13 q14; omega) | (simp [q9, q13, q14] at q1; done) | (simp [q1, q13, q14] at q9; done) | (simp [q1, q9, q14] at q13; done) | (simp [q1, q9, q13] at q14; done)) stsub_nil)
            · refine JL_guard rfl rfl q13 ?_
              refine JL_pd rfl (det_fieldAddr rfl fo_54_2) ?_
              refine JL_guard rfl rfl q13 ?_
              refine JL_pd rfl (det_fieldAddr rfl fo_47_1) ?_
              refine JL_guard rfl rfl q13 ?_
              refine JL_dt rfl (det_loadK rfl Try.isAgg3 rfl) ?_
              refine JL_guard rfl rfl q13 ?_
              refine JL_pd rfl (det_gtr rfl rfl) ?_
              refine JL_pd rfl (det_pick_f rfl q13 rfl) ?_
              refine JL_pd rfl (det_move rfl) ?_
              refine JL_split (d0 := 44) rfl (fun q15 => ?_) (fun q15 => ?_)
              · refine JL_skip rfl rfl q15 rfl ?_
                refine JL_skip rfl rfl q15 rfl ?_
                refine JL_skip rfl rfl q15 rfl ?_
                refine JL_skip rfl rfl q15 rfl ?_
                refine JL_pd rfl (det_pick_t rfl q15 rfl) ?_
                exact hj (by kernel_rfl) (stsub_consB rfl (by clear hj; first | rfl | (simp only [q1, q9, q13, q15, Bool.and_true, Bool.true_and, Bool.false_and, Bool.and_false, Bool.or_true, Bool.true_or, Bool.or_false, Bool.false_or, Bool.not_true, Bool.not_false]; done) | (simp [q1, q9, q13, q15]; done) | (simp at q1; done) | (simp at q9; done) | (simp at q13; done) | (simp at q15; done) | (simp [q1, q9, q13, q15] <;> omega) | (exfalso; simp at q1 q9 q13 q15; omega) | (simp [q9, q13, q15] at q1; done) | (simp [q1, q13, q15] at q9; done) | (simp [q1, q9, q15] at q13; done) | (simp [q1, q9, q13] at q15; done)) stsub_nil)
              · refine JL_guard rfl rfl q15 ?_
                refine JL_pd rfl (det_fieldAddr rfl fo_54_3) ?_
                refine JL_guard rfl rfl q15 ?_
                refine JL_dt rfl (det_loadK rfl Try.isAgg3 rfl) ?_
                refine JL_guard rfl rfl q15 ?_
                refine JL_step rfl rfl rfl (jo_callv rfl rfl Try.call27 rfl (In_j _ _ _)) fun _ => ?_
                refine JL_guard rfl rfl q15 ?_
                refine JL_pd rfl (det_not rfl) ?_
                refine JL_pd rfl (det_pick_f rfl q15 rfl) ?_
                exact hj (by kernel_rfl) (stsub_consB rfl (by clear hj; first | rfl | (simp only [q1, q9, q13, q15, Bool.and_true, Bool.true_and, Bool.false_and, Bool.and_false, Bool.or_true, Bool.true_or, Bool.or_false, Bool.false_or, Bool.not_true, Bool.not_false]; done) | (simp [q1, q9, q13, q15]; done) | (simp at q1; done) | (simp at q9; done) | (simp at q13; done) | (simp at q15; done) | (simp [q1, q9, q13, q15] <;> omega) | (exfalso; simp at q1 q9 q13 q15; omega) | (simp [q9, q13, q15] at q1; done) | (simp [q1, q13, q15] at q9; done) | (simp [q1, q9, q15] at q13; done) | (simp [q1, q9, q13] at q15; done)) stsub_nil)
      refine JL_nil ?_
      refine JE_seq ?_
      -- stop: cond
      rw [heq]
      refine JC_cond rfl (fun h2 => ?_) (fun h2 => ?_)
      · simp only [Bool.not_eq_true'] at h2
        refine JC_seq ?_
        refine JC_region ?_
        refine JL_pd rfl (det_assign rfl) ?_
        refine JL_nil ?_
        refine JE_seq ?_
        refine JC_ret ?_
        refine JE_block_ret ?_
        refine JE_seq_ret ?_
        refine JE_then_ret ?_
        refine JE_block_ret ?_
        refine JE_seq_ret ?_
        -- stop: out
        refine JE_out (.inl rfl) () (results1 Try.results35 (res_tmp rfl)) (by unfold tarE; rw [if_neg (by omega), if_pos (all_no hi2 h2)]) (List.Perm.refl _) (fun _ _ => trivial)
      · simp only [Bool.not_eq_false'] at h2
        refine JC_skip ?_
        refine JE_block ?_
        refine JE_seq ?_
        refine JC_region ?_
        refine JL_pd rfl (det_move rfl) ?_
        refine JL_pd rfl (det_add rfl rfl ⟨by omega, by omega⟩) ?_
        refine JL_pd rfl (det_assign rfl) ?_
        refine JL_nil ?_
        -- stop: end
        refine JE_roundF hK (i + 1) ⟨by omega, all_snoc hi2 ha h2⟩ (by omega) (stsub_consI rfl (by omega) stsub_nil) ht_nil
    · obtain rfl : i = ls.length := by omega
      rw [List.take_length] at ha
      refine JC_exit ?_
      refine JE_seq_exit ?_
      refine JE_then_exit ?_
      refine JE_block_here ?_
      refine JE_seq ?_
      refine JC_seq ?_
      refine JC_region ?_
      refine JL_pd rfl (det_assign rfl) ?_
      refine JL_nil ?_
      refine JE_seq ?_
      refine JC_ret ?_
      -- stop: out
      refine JE_out (.inl rfl) () (results1 Try.results35 (res_tmp rfl)) (by unfold tarE; rw [if_neg (by omega), if_neg (by rw [ha]; decide)]) (List.Perm.refl _) (fun _ _ => trivial)
set_option maxRecDepth 100000 in
theorem fault_j (a : Option Addr) (c : Nat) (ls : List Of) (need : Am) (at_ : Int) (hl : ls.length ≤ 1000) : Cv Try.prog 42 [.slice a ls.length c, .agg #[I need.g, I need.q, I need.s], I at_] (KSl a ls.length c encO ls) (I (askE ls need at_)) := by
  refine Cx_of Try.func42 rfl Try.ntmps42 rfl fun w0 M0 => ?_
  refine JC_seq ?_
  refine JC_region ?_
  refine JL_step rfl rfl rfl (jo_box rfl rfl) fun b4 => ?_
  refine JL_pd rfl (det_assign rfl) ?_
  refine JL_nil ?_
  refine JE_seq ?_
  refine JC_seq ?_
  refine JC_seq ?_
  refine JC_region ?_
  refine JL_pd rfl (det_move rfl) ?_
  refine JL_step rfl rfl rfl (jo_callv rfl rfl Try.call35 rfl (Fault_j a c ls hl)) fun _ => ?_
  refine JL_pd rfl (det_assign rfl) ?_
  refine JL_nil ?_
  refine JE_seq ?_
  refine JC_seq ?_
  refine JC_region ?_
  refine JL_pd rfl (det_move rfl) ?_
  refine JL_pd rfl (det_neq rfl rfl) ?_
  refine JL_nil ?_
  refine JE_seq ?_
  -- stop: cond
  refine JC_ifn rfl (fun h1 => ?_) (fun h1 => ?_)
  · refine JC_seq ?_
    refine JC_region ?_
    refine JL_pd rfl (det_move rfl) ?_
    refine JL_pd rfl (det_assign rfl) ?_
    refine JL_nil ?_
    refine JE_seq ?_
    refine JC_ret ?_
    refine JE_seq_ret ?_
    -- stop: out
    refine JE_out (.inl rfl) () (results1 Try.results42 (res_tmp rfl)) (by unfold askE; rw [if_pos h1]) (List.Perm.refl _) (fun _ _ => trivial)
  · have h1 : tarE ls = 0 := h1
    refine JC_skip ?_
    refine JE_seq ?_
    refine JC_seq ?_
    refine JC_seq ?_
    refine JC_region ?_
    refine JL_dt rfl (det_loadKA rfl Try.isAgg52 Try.sizeOf52 rfl rfl) ?_
    refine JL_step rfl rfl rfl (jo_callv rfl rfl Try.call36 rfl (IsAmount_j _)) fun _ => ?_
    refine JL_pd rfl (det_not rfl) ?_
    refine JL_pd rfl (det_move rfl) ?_
    -- stop: guard 3
    refine JL_join1 4 20 (.bool (!(amOk need && inI at_ 0 23))) (fun hj => ?_) ?_
    · refine JL_split (d0 := 16) rfl (fun q16 => ?_) (fun q16 => ?_)
      · refine JL_skip rfl rfl q16 rfl ?_
        refine JL_skip rfl rfl q16 rfl ?_
        refine JL_skip rfl rfl q16 rfl ?_
        refine JL_pd rfl (det_pick_t rfl q16 rfl) ?_
        exact hj (by kernel_rfl) (stsub_consB rfl (by clear hj; first | rfl | (simp only [q16, Bool.and_true, Bool.true_and, Bool.false_and, Bool.and_false, Bool.or_true, Bool.true_or, Bool.or_false, Bool.false_or, Bool.not_true, Bool.not_false]; done) | (simp [q16]; done) | (simp at q16; done) | (simp [q16] <;> omega) | (exfalso; simp at q16; omega)) stsub_nil)
      · refine JL_guard rfl rfl q16 ?_
        refine JL_pd rfl (det_move rfl) ?_
        refine JL_guard rfl rfl q16 ?_
        refine JL_step rfl rfl rfl (jo_callv rfl rfl Try.call27 rfl (In_j _ _ _)) fun _ => ?_
        refine JL_guard rfl rfl q16 ?_
        refine JL_pd rfl (det_not rfl) ?_
        refine JL_pd rfl (det_pick_f rfl q16 rfl) ?_
        exact hj (by kernel_rfl) (stsub_consB rfl (by clear hj; first | rfl | (simp only [q16, Bool.and_true, Bool.true_and, Bool.false_and, Bool.and_false, Bool.or_true, Bool.true_or, Bool.or_false, Bool.false_or, Bool.not_true, Bool.not_false]; done) | (simp [q16]; done) | (simp at q16; done) | (simp [q16] <;> omega) | (exfalso; simp at q16; omega)) stsub_nil)
    refine JL_nil ?_
    refine JE_seq ?_
    -- stop: cond
    refine JC_cond rfl (fun h2 => ?_) (fun h2 => ?_)
    · simp only [Bool.not_eq_true'] at h2
      refine JC_seq ?_
      refine JC_region ?_
      refine JL_pd rfl (det_assign rfl) ?_
      refine JL_nil ?_
      refine JE_seq ?_
      refine JC_ret ?_
      refine JE_seq_ret ?_
      -- stop: out
      refine JE_out (.inl rfl) () (results1 Try.results42 (res_tmp rfl)) (by unfold askE; rw [if_neg (fun h => h h1), if_pos h2]) (List.Perm.refl _) (fun _ _ => trivial)
    · simp only [Bool.not_eq_false'] at h2
      refine JC_skip ?_
      refine JE_seq ?_
      refine JC_seq ?_
      refine JC_region ?_
      refine JL_pd rfl (det_assign rfl) ?_
      refine JL_nil ?_
      refine JE_seq ?_
      refine JC_ret ?_
      -- stop: out
      refine JE_out (.inl rfl) () (results1 Try.results42 (res_tmp rfl)) (by unfold askE; rw [if_neg (fun h => h h1), if_neg (by rw [h2]; decide)]) (List.Perm.refl _) (fun _ _ => trivial)
set_option maxRecDepth 100000 in
theorem Allowed_j (a : Option Addr) (c : Nat) (ls : List Of) (at_ : Int) (pa : Option Addr) (pc : Nat) (p : List Int) (hl : ls.length ≤ 1000) (hV : ∀ o ∈ ls, VOf o) : Cv Try.prog 43 [.slice a ls.length c, I at_, .slice pa p.length pc] (KAnd (KSl a ls.length c encO ls) (KSl pa p.length pc encI p)) (.bool (alP at_ ls p)) := by
  refine Cx_of Try.func43 rfl Try.ntmps43 rfl fun w0 M0 => ?_
  refine JC_seq ?_
  refine JC_region ?_
  refine JL_pd rfl (det_assign rfl) ?_
  refine JL_nil ?_
  refine JE_seq ?_
  refine JC_seq ?_
  refine JC_seq ?_
  refine JC_region ?_
  refine JL_pd rfl (det_move rfl) ?_
  refine JL_pd rfl (det_len rfl Try.runUnderlying22) ?_
  refine JL_pd rfl (det_move rfl) ?_
  refine JL_pd rfl (det_len rfl Try.runUnderlying50) ?_
  refine JL_pd rfl (det_neq rfl rfl) ?_
  refine JL_nil ?_
  refine JE_seq ?_
  -- stop: cond
  refine JC_ifn rfl (fun h1 => ?_) (fun h1 => ?_)
  · refine JC_seq ?_
    refine JC_region ?_
    refine JL_pd rfl (det_assign rfl) ?_
    refine JL_nil ?_
    refine JE_seq ?_
    refine JC_ret ?_
    refine JE_seq_ret ?_
    -- stop: out
    refine JE_out (.inl rfl) () (results1 Try.results43 (res_tmp rfl)) (by cases h : alP at_ ls p; rfl; exact absurd (alP_len h) (fun e => h1 (by omega))) (List.Perm.refl _) (fun _ _ => trivial)
  · have h1 : p.length = ls.length := by omega
    refine JC_skip ?_
    refine JE_seq ?_
    refine JC_seq ?_
    refine JC_seq ?_
    refine JC_region ?_
    refine JL_pd rfl (det_assign rfl) ?_
    refine JL_nil ?_
    refine JE_seq ?_
    refine JC_block ?_
    -- stop: loop
    refine JC_loopF (γ := Nat) (fun i => i ≤ ls.length ∧ alP at_ (ls.take i) (p.take i) = true) (fun i => [(7, I i)]) (fun _ => []) (fun i => ls.length - i) 0 ⟨Nat.zero_le _, rfl⟩ (stsub_consI rfl rfl stsub_nil) ht_nil ?_
    rintro i ⟨hi, ha⟩ K hK
    dsimp only [List.cons_append, List.nil_append]
    refine JC_seq ?_
    refine JC_seq ?_
    refine JC_region ?_
    refine JL_pd rfl (det_move rfl) ?_
    refine JL_pd rfl (det_move rfl) ?_
    refine JL_pd rfl (det_len rfl Try.runUnderlying50) ?_
    refine JL_pd rfl (det_lss rfl rfl) ?_
    refine JL_nil ?_
    refine JE_seq ?_
    -- stop: cond
    refine JC_if rfl (fun h2 => ?_) (fun h2 => ?_)
    · have hi2 : i < ls.length := by omega
      have hi3 : i < p.length := by omega
      have hv := hV _ (List.getElem_mem hi2)
      have hs := al_snoc (at_ := at_) h1 hi2
      rw [ha, Bool.true_and] at hs
      have m0 := hv.m0
      have hno : inI p[i] 0 (mostV ls[i] at_) = false → alP at_ ls p = false := fun e => by
        cases h : alP at_ ls p
        · rfl
        · rw [alP_get h i hi2 hi3] at e; cases e
      have hf1 : inI at_ ls[i].lo ls[i].hi = false → 0 < p[i] → inI p[i] 0 (mostV ls[i] at_) = false := fun h3 q => Bool.eq_false_iff.2 fun hq => by
        have hq := inI_iff.1 hq
        unfold mostV at hq
        rw [if_neg (by rw [h3]; decide)] at hq
        omega
      have hf2 : inI p[i] 0 ls[i].most = false → inI p[i] 0 (mostV ls[i] at_) = false := fun q => Bool.eq_false_iff.2 fun hq => by
        have hq := inI_iff.1 hq
        have hle : mostV ls[i] at_ ≤ ls[i].most := by unfold mostV; split <;> omega
        rw [inI_iff.2 ⟨hq.1, by omega⟩] at q
        cases q
      refine JC_skip ?_
      refine JE_seq ?_
      refine JC_seq ?_
      refine JC_block ?_
      refine JC_seq ?_
      refine JC_draw [] (by kernel_rfl) ?_
      refine JA_pd (i := 0) rfl (by kernel_rfl) rfl rfl (det_move rfl) ?_
      refine JA_pd (i := 1) rfl (by kernel_rfl) rfl rfl (det_move rfl) ?_
      refine JA_dt (i := 2) rfl (by kernel_rfl) (by kernel_rfl) rfl rfl (det_indexAddr rfl rfl (by first | rfl | omega) (by first | assumption | omega | decide) Try.runUnderlying22 Try.sizeOf3) ?_
      refine JA_dt (i := 3) rfl (by kernel_rfl) (by kernel_rfl) rfl rfl (det_loadE rfl (by first | assumption | omega | decide) Try.isAgg3 rfl rfl) ?_
      refine JA_pd (i := 4) rfl (by kernel_rfl) rfl rfl (det_move rfl) ?_
      refine JA_pd (i := 5) rfl (by kernel_rfl) rfl rfl (det_move rfl) ?_
      refine JA_dt (i := 6) rfl (by kernel_rfl) (by kernel_rfl) rfl rfl (det_indexAddr rfl rfl (by first | rfl | omega) (by first | assumption | omega | decide) Try.runUnderlying50 Try.sizeOf54) ?_
      refine JA_pd (i := 7) rfl (by kernel_rfl) rfl rfl (det_fieldAddrE rfl fo_54_3) ?_
      refine JA_dt (i := 8) rfl (by kernel_rfl) (by kernel_rfl) rfl rfl (det_loadEk rfl (by first | assumption | omega | decide) Try.isAgg3 rfl rfl) ?_
      refine JA_one (i := 9) (by kernel_rfl) rfl rfl (jo_callv rfl rfl Try.call27 rfl (In_j _ _ _)) (fun _ => ⟨hsub_refl, fun _ h => h⟩) fun _ => ?_
      refine JA_pd (i := 10) rfl (by kernel_rfl) rfl rfl (det_not rfl) ?_
      refine JA_pd (i := 11) rfl (by kernel_rfl) rfl rfl (det_move rfl) ?_
      -- stop: guard 11
      by_cases q1 : inI p[i] 0 ls[i].most = true
      · have q1' := inI_iff.1 q1
        refine JA_is (d0 := 30) false rfl (by rw [q1]; rfl) (fun g1 => ?_)
        refine JA_gpd (i := 12) rfl (by kernel_rfl) rfl rfl rfl rfl g1 (det_move rfl) ?_
        refine JA_gpd (i := 13) rfl (by kernel_rfl) rfl rfl rfl rfl g1 (det_move rfl) ?_
        refine JA_gdt (i := 14) rfl (by kernel_rfl) (by kernel_rfl) rfl rfl rfl rfl g1 (det_indexAddr rfl rfl (by first | rfl | omega) (by first | assumption | omega | decide) Try.runUnderlying22 Try.sizeOf3) ?_
        refine JA_gdt (i := 15) rfl (by kernel_rfl) (by kernel_rfl) rfl rfl rfl rfl g1 (det_loadE rfl (by first | assumption | omega | decide) Try.isAgg3 rfl rfl) ?_
        refine JA_gpd (i := 16) rfl (by kernel_rfl) rfl rfl rfl rfl g1 (det_gtr rfl rfl) ?_
        refine JA_gpd (i := 17) rfl (by kernel_rfl) rfl rfl rfl rfl g1 (det_move rfl) ?_
        -- stop: guard 17
        by_cases q2 : 0 < p[i]
        · refine JA_is (d0 := 36) true rfl (by exact decide_eq_true q2) (fun g2 => ?_)
          refine JA_gpd (i := 18) rfl (by kernel_rfl) rfl rfl rfl rfl g2 (det_move rfl) ?_
          refine JA_gpd (i := 19) rfl (by kernel_rfl) rfl rfl rfl rfl g2 (det_move rfl) ?_
          refine JA_gpd (i := 20) rfl (by kernel_rfl) rfl rfl rfl rfl g2 (det_move rfl) ?_
          refine JA_gdt (i := 21) rfl (by kernel_rfl) (by kernel_rfl) rfl rfl rfl rfl g2 (det_indexAddr rfl rfl (by first | rfl | omega) (by first | assumption | omega | decide) Try.runUnderlying50 Try.sizeOf54) ?_
          refine JA_gpd (i := 22) rfl (by kernel_rfl) rfl rfl rfl rfl g2 (det_fieldAddrE rfl fo_54_2) ?_
          refine JA_gpd (i := 23) rfl (by kernel_rfl) rfl rfl rfl rfl g2 (det_fieldAddrEk (k2 := 4) rfl fo_47_0 rfl) ?_
          refine JA_gdt (i := 24) rfl (by kernel_rfl) (by kernel_rfl) rfl rfl rfl rfl g2 (det_loadEk rfl (by first | assumption | omega | decide) Try.isAgg3 rfl rfl) ?_
          refine JA_gpd (i := 25) rfl (by kernel_rfl) rfl rfl rfl rfl g2 (det_move rfl) ?_
          refine JA_gpd (i := 26) rfl (by kernel_rfl) rfl rfl rfl rfl g2 (det_move rfl) ?_
          refine JA_gdt (i := 27) rfl (by kernel_rfl) (by kernel_rfl) rfl rfl rfl rfl g2 (det_indexAddr rfl rfl (by first | rfl | omega) (by first | assumption | omega | decide) Try.runUnderlying50 Try.sizeOf54) ?_
          refine JA_gpd (i := 28) rfl (by kernel_rfl) rfl rfl rfl rfl g2 (det_fieldAddrE rfl fo_54_2) ?_
          refine JA_gpd (i := 29) rfl (by kernel_rfl) rfl rfl rfl rfl g2 (det_fieldAddrEk (k2 := 5) rfl fo_47_1 rfl) ?_
          refine JA_gdt (i := 30) rfl (by kernel_rfl) (by kernel_rfl) rfl rfl rfl rfl g2 (det_loadEk rfl (by first | assumption | omega | decide) Try.isAgg3 rfl rfl) ?_
          refine JA_gone (i := 31) (by kernel_rfl) rfl rfl rfl g2 rfl (jo_callv rfl rfl Try.call27 rfl (In_j _ _ _)) (fun _ => ⟨hsub_refl, fun _ h => h⟩) fun _ => ?_
          refine JA_gpd (i := 32) rfl (by kernel_rfl) rfl rfl rfl rfl g2 (det_not rfl) ?_
          refine JA_gpd (i := 33) rfl (by kernel_rfl) rfl rfl rfl rfl g1 (det_pick_t rfl g2 rfl) ?_
          refine JA_pd (i := 34) rfl (by kernel_rfl) rfl rfl (det_pick_f rfl g1 rfl) ?_
          refine JA_done (by kernel_rfl) ?_
          refine JE_seq ?_
          -- stop: cond
          refine JC_cond rfl (fun h3 => ?_) (fun h3 => ?_)
          · simp only [Bool.not_eq_true'] at h3
            refine JC_seq ?_
            refine JC_region ?_
            refine JL_pd rfl (det_assign rfl) ?_
            refine JL_nil ?_
            refine JE_seq ?_
            refine JC_ret ?_
            refine JE_block_ret ?_
            refine JE_seq_ret ?_
            refine JE_then_ret ?_
            refine JE_block_ret ?_
            refine JE_seq_ret ?_
            -- stop: out
            refine JE_out (.inl rfl) () (results1 Try.results43 (res_tmp rfl)) (by rw [hno (hf1 h3 q2)]) (List.Perm.refl _) (fun _ _ => trivial)
          · simp only [Bool.not_eq_false'] at h3
            refine JC_skip ?_
            refine JE_block ?_
            refine JE_seq ?_
            refine JC_region ?_
            refine JL_pd rfl (det_move rfl) ?_
            refine JL_pd rfl (det_add rfl rfl ⟨by omega, by omega⟩) ?_
            refine JL_pd rfl (det_assign rfl) ?_
            refine JL_nil ?_
            -- stop: end
            refine JE_roundF hK (i + 1) ⟨by omega, by rw [hs]; unfold mostV; rw [if_pos h3]; exact q1⟩ (by omega) (stsub_consI rfl (by omega) stsub_nil) ht_nil
        · skip
          refine JA_is (d0 := 36) false rfl (by exact decide_eq_false q2) (fun g2 => ?_)
          refine JA_skip (i := 18) rfl (by kernel_rfl) rfl rfl rfl rfl g2 ?_
          refine JA_skip (i := 19) rfl (by kernel_rfl) rfl rfl rfl rfl g2 ?_
          refine JA_skip (i := 20) rfl (by kernel_rfl) rfl rfl rfl rfl g2 ?_
          refine JA_skip (i := 21) rfl (by kernel_rfl) rfl rfl rfl rfl g2 ?_
          refine JA_skip (i := 22) rfl (by kernel_rfl) rfl rfl rfl rfl g2 ?_
          refine JA_skip (i := 23) rfl (by kernel_rfl) rfl rfl rfl rfl g2 ?_
          refine JA_skip (i := 24) rfl (by kernel_rfl) rfl rfl rfl rfl g2 ?_
          refine JA_skip (i := 25) rfl (by kernel_rfl) rfl rfl rfl rfl g2 ?_
          refine JA_skip (i := 26) rfl (by kernel_rfl) rfl rfl rfl rfl g2 ?_
          refine JA_skip (i := 27) rfl (by kernel_rfl) rfl rfl rfl rfl g2 ?_
          refine JA_skip (i := 28) rfl (by kernel_rfl) rfl rfl rfl rfl g2 ?_
          refine JA_skip (i := 29) rfl (by kernel_rfl) rfl rfl rfl rfl g2 ?_
          refine JA_skip (i := 30) rfl (by kernel_rfl) rfl rfl rfl rfl g2 ?_
          refine JA_skip (i := 31) rfl (by kernel_rfl) rfl rfl rfl rfl g2 ?_
          refine JA_skip (i := 32) rfl (by kernel_rfl) rfl rfl rfl rfl g2 ?_
          refine JA_gpd (i := 33) rfl (by kernel_rfl) rfl rfl rfl rfl g1 (det_pick_f rfl g2 rfl) ?_
          refine JA_pd (i := 34) rfl (by kernel_rfl) rfl rfl (det_pick_f rfl g1 rfl) ?_
          refine JA_done (by kernel_rfl) ?_
          refine JE_seq ?_
          refine JC_condF rfl rfl ?_
          refine JC_skip ?_
          refine JE_block ?_
          refine JE_seq ?_
          refine JC_region ?_
          refine JL_pd rfl (det_move rfl) ?_
          refine JL_pd rfl (det_add rfl rfl ⟨by omega, by omega⟩) ?_
          refine JL_pd rfl (det_assign rfl) ?_
          refine JL_nil ?_
          -- stop: end
          refine JE_roundF hK (i + 1) ⟨by omega, by rw [hs]; exact inI_iff.2 ⟨by omega, by have := (most_bd hv at_).1; omega⟩⟩ (by omega) (stsub_consI rfl (by omega) stsub_nil) ht_nil
      · rw [Bool.not_eq_true] at q1
        refine JA_is (d0 := 30) true rfl (by rw [q1]; rfl) (fun g1 => ?_)
        refine JA_skip (i := 12) rfl (by kernel_rfl) rfl rfl rfl rfl g1 ?_
        refine JA_skip (i := 13) rfl (by kernel_rfl) rfl rfl rfl rfl g1 ?_
        refine JA_skip (i := 14) rfl (by kernel_rfl) rfl rfl rfl rfl g1 ?_
        refine JA_skip (i := 15) rfl (by kernel_rfl) rfl rfl rfl rfl g1 ?_
        refine JA_skip (i := 16) rfl (by kernel_rfl) rfl rfl rfl rfl g1 ?_
        refine JA_skip (i := 17) rfl (by kernel_rfl) rfl rfl rfl rfl g1 ?_
        refine JA_skipU (i := 18) rfl (by kernel_rfl) rfl rfl rfl rfl ?_
        refine JA_skipU (i := 19) rfl (by kernel_rfl) rfl rfl rfl rfl ?_
        refine JA_skipU (i := 20) rfl (by kernel_rfl) rfl rfl rfl rfl ?_
        refine JA_skipU (i := 21) rfl (by kernel_rfl) rfl rfl rfl rfl ?_
        refine JA_skipU (i := 22) rfl (by kernel_rfl) rfl rfl rfl rfl ?_
        refine JA_skipU (i := 23) rfl (by kernel_rfl) rfl rfl rfl rfl ?_
        refine JA_skipU (i := 24) rfl (by kernel_rfl) rfl rfl rfl rfl ?_
        refine JA_skipU (i := 25) rfl (by kernel_rfl) rfl rfl rfl rfl ?_
        refine JA_skipU (i := 26) rfl (by kernel_rfl) rfl rfl rfl rfl ?_
        refine JA_skipU (i := 27) rfl (by kernel_rfl) rfl rfl rfl rfl ?_
        refine JA_skipU (i := 28) rfl (by kernel_rfl) rfl rfl rfl rfl ?_
        refine JA_skipU (i := 29) rfl (by kernel_rfl) rfl rfl rfl rfl ?_
        refine JA_skipU (i := 30) rfl (by kernel_rfl) rfl rfl rfl rfl ?_
        refine JA_skipU (i := 31) rfl (by kernel_rfl) rfl rfl rfl rfl ?_
        refine JA_skipU (i := 32) rfl (by kernel_rfl) rfl rfl rfl rfl ?_
        refine JA_skip (i := 33) rfl (by kernel_rfl) rfl rfl rfl rfl g1 ?_
        refine JA_pd (i := 34) rfl (by kernel_rfl) rfl rfl (det_pick_t rfl g1 rfl) ?_
        refine JA_done (by kernel_rfl) ?_
        refine JE_seq ?_
        refine JC_condT rfl rfl ?_
        refine JC_seq ?_
        refine JC_region ?_
        refine JL_pd rfl (det_assign rfl) ?_
        refine JL_nil ?_
        refine JE_seq ?_
        refine JC_ret ?_
        refine JE_block_ret ?_
        refine JE_seq_ret ?_
        refine JE_then_ret ?_
        refine JE_block_ret ?_
        refine JE_seq_ret ?_
        -- stop: out
        refine JE_out (.inl rfl) () (results1 Try.results43 (res_tmp rfl)) (by rw [hno (hf2 q1)]) (List.Perm.refl _) (fun _ _ => trivial)
    · obtain rfl : i = ls.length := by omega
      rw [List.take_length, ← h1, List.take_length] at ha
      refine JC_exit ?_
      refine JE_seq_exit ?_
      refine JE_then_exit ?_
      refine JE_block_here ?_
      refine JE_seq ?_
      refine JC_seq ?_
      refine JC_region ?_
      refine JL_pd rfl (det_assign rfl) ?_
      refine JL_nil ?_
      refine JE_seq ?_
      refine JC_ret ?_
      -- stop: out
      refine JE_out (.inl rfl) () (results1 Try.results43 (res_tmp rfl)) (by rw [ha]) (List.Perm.refl _) (fun _ _ => trivial)
set_option maxRecDepth 100000 in
theorem Covers_j (a : Option Addr) (c : Nat) (ls : List Of) (need : Am) (at_ : Int) (pa : Option Addr) (pc : Nat) (p : List Int) (hl : ls.length ≤ 1000) (hV : ∀ o ∈ ls, VOf o) (hp : alP at_ ls p = true) : Cv Try.prog 44 [.slice a ls.length c, .agg #[I need.g, I need.q, I need.s], .slice pa p.length pc] (KAnd (KSl a ls.length c encO ls) (KSl pa p.length pc encI p)) (.bool (leA need (hvP ls p))) := by
  have h1 := alP_len hp
  refine Cx_of Try.func44 rfl Try.ntmps44 rfl fun w0 M0 => ?_
  refine JC_seq ?_
  refine JC_region ?_
  refine JL_step rfl rfl rfl (jo_box rfl rfl) fun b4 => ?_
  refine JL_pd rfl (det_assign rfl) ?_
  refine JL_nil ?_
  refine JE_seq ?_
  refine JC_seq ?_
  refine JC_region ?_
  refine JL_step rfl rfl rfl (jo_alloc0 Try.zeroValue52 rfl) fun b7 => ?_
  refine JL_nil ?_
  refine JE_seq ?_
  refine JC_seq ?_
  refine JC_seq ?_
  refine JC_region ?_
  refine JL_pd rfl (det_assign rfl) ?_
  refine JL_nil ?_
  refine JE_seq ?_
  refine JC_block ?_
  -- stop: loop
  refine JC_loopF (γ := Nat) (fun i => i ≤ ls.length) (fun i => [(8, I i)]) (fun i => [bx b7 [I (hvP (ls.take i) (p.take i)).g, I (hvP (ls.take i) (p.take i)).q, I (hvP (ls.take i) (p.take i)).s]]) (fun i => ls.length - i) 0 (Nat.zero_le _) (stsub_consI rfl rfl stsub_nil) (ht_bx rfl ht_nil) ?_
  intro i hi K hK
  dsimp only [List.cons_append, List.nil_append]
  have hb := hvP_0 (take_V hV i) (alP_take i hp)
  rw [List.length_take] at hb
  refine JC_seq ?_
  refine JC_seq ?_
  refine JC_region ?_
  refine JL_pd rfl (det_move rfl) ?_
  refine JL_pd rfl (det_move rfl) ?_
  refine JL_pd rfl (det_len rfl Try.runUnderlying50) ?_
  refine JL_pd rfl (det_lss rfl rfl) ?_
  refine JL_nil ?_
  refine JE_seq ?_
  -- stop: cond
  refine JC_if rfl (fun h2 => ?_) (fun h2 => ?_)
  · have hi2 : i < ls.length := by omega
    have hi3 : i < p.length := by omega
    have hv := hV _ (List.getElem_mem hi2)
    have hbb := buy_bd hv (alP_get hp i hi2 hi3)
    have hs := hv_snoc h1 hi2
    generalize hvP (ls.take i) (p.take i) = Hh at hb hs
    refine JC_skip ?_
    refine JE_seq ?_
    refine JC_seq ?_
    refine JC_block ?_
    refine JC_seq ?_
    refine JC_draw [15] (by kernel_rfl) ?_
    refine JA_pd (i := 0) rfl (by kernel_rfl) rfl rfl (det_fieldAddr rfl fo_52_0) ?_
    refine JA_dt (i := 1) rfl (by kernel_rfl) (by kernel_rfl) rfl rfl (det_loadK rfl Try.isAgg3 rfl) ?_
    refine JA_pd (i := 2) rfl (by kernel_rfl) rfl rfl (det_move rfl) ?_
    refine JA_pd (i := 3) rfl (by kernel_rfl) rfl rfl (det_move rfl) ?_
    refine JA_dt (i := 4) rfl (by kernel_rfl) (by kernel_rfl) rfl rfl (det_indexAddr rfl rfl (by first | rfl | omega) (by first | assumption | omega | decide) Try.runUnderlying22 Try.sizeOf3) ?_
    refine JA_dt (i := 5) rfl (by kernel_rfl) (by kernel_rfl) rfl rfl (det_loadE rfl (by first | assumption | omega | decide) Try.isAgg3 rfl rfl) ?_
    refine JA_pd (i := 6) rfl (by kernel_rfl) rfl rfl (det_move rfl) ?_
    refine JA_pd (i := 7) rfl (by kernel_rfl) rfl rfl (det_move rfl) ?_
    refine JA_dt (i := 8) rfl (by kernel_rfl) (by kernel_rfl) rfl rfl (det_indexAddr rfl rfl (by first | rfl | omega) (by first | assumption | omega | decide) Try.runUnderlying50 Try.sizeOf54) ?_
    refine JA_pd (i := 9) rfl (by kernel_rfl) rfl rfl (det_fieldAddrE rfl fo_54_1) ?_
    refine JA_pd (i := 10) rfl (by kernel_rfl) rfl rfl (det_fieldAddrEk (k2 := 1) rfl fo_52_0 rfl) ?_
    refine JA_dt (i := 11) rfl (by kernel_rfl) (by kernel_rfl) rfl rfl (det_loadEk rfl (by first | assumption | omega | decide) Try.isAgg3 rfl rfl) ?_
    refine JA_pd (i := 12) rfl (by kernel_rfl) rfl rfl (det_mul rfl rfl ⟨by omega, by omega⟩) ?_
    refine JA_pd (i := 13) rfl (by kernel_rfl) rfl rfl (det_add rfl rfl ⟨by omega, by omega⟩) ?_
    refine JA_pd (i := 14) rfl (by kernel_rfl) rfl rfl (det_fieldAddr rfl fo_52_0) ?_
    refine JA_tail (i := 15) (by kernel_rfl) rfl rfl rfl rfl (jo_store rfl rfl rfl (by first | (simp only [splice_norm]; done) | (simp only [splice_norm]; rfl) | rfl) Try.sizeOf3 rfl rfl) fun _ => ?_
    refine JT_done (by kernel_rfl) ?_
    refine JE_seq ?_
    refine JC_seq ?_
    refine JC_draw [15] (by kernel_rfl) ?_
    refine JA_pd (i := 0) rfl (by kernel_rfl) rfl rfl (det_fieldAddr rfl fo_52_1) ?_
    refine JA_dt (i := 1) rfl (by kernel_rfl) (by kernel_rfl) rfl rfl (det_loadK rfl Try.isAgg3 rfl) ?_
    refine JA_pd (i := 2) rfl (by kernel_rfl) rfl rfl (det_move rfl) ?_
    refine JA_pd (i := 3) rfl (by kernel_rfl) rfl rfl (det_move rfl) ?_
    refine JA_dt (i := 4) rfl (by kernel_rfl) (by kernel_rfl) rfl rfl (det_indexAddr rfl rfl (by first | rfl | omega) (by first | assumption | omega | decide) Try.runUnderlying22 Try.sizeOf3) ?_
    refine JA_dt (i := 5) rfl (by kernel_rfl) (by kernel_rfl) rfl rfl (det_loadE rfl (by first | assumption | omega | decide) Try.isAgg3 rfl rfl) ?_
    refine JA_pd (i := 6) rfl (by kernel_rfl) rfl rfl (det_move rfl) ?_
    refine JA_pd (i := 7) rfl (by kernel_rfl) rfl rfl (det_move rfl) ?_
    refine JA_dt (i := 8) rfl (by kernel_rfl) (by kernel_rfl) rfl rfl (det_indexAddr rfl rfl (by first | rfl | omega) (by first | assumption | omega | decide) Try.runUnderlying50 Try.sizeOf54) ?_
    refine JA_pd (i := 9) rfl (by kernel_rfl) rfl rfl (det_fieldAddrE rfl fo_54_1) ?_
    refine JA_pd (i := 10) rfl (by kernel_rfl) rfl rfl (det_fieldAddrEk (k2 := 2) rfl fo_52_1 rfl) ?_
    refine JA_dt (i := 11) rfl (by kernel_rfl) (by kernel_rfl) rfl rfl (det_loadEk rfl (by first | assumption | omega | decide) Try.isAgg3 rfl rfl) ?_
    refine JA_pd (i := 12) rfl (by kernel_rfl) rfl rfl (det_mul rfl rfl ⟨by omega, by omega⟩) ?_
    refine JA_pd (i := 13) rfl (by kernel_rfl) rfl rfl (det_add rfl rfl ⟨by omega, by omega⟩) ?_
    refine JA_pd (i := 14) rfl (by kernel_rfl) rfl rfl (det_fieldAddr rfl fo_52_1) ?_
    refine JA_tail (i := 15) (by kernel_rfl) rfl rfl rfl rfl (jo_store rfl rfl rfl (by first | (simp only [splice_norm]; done) | (simp only [splice_norm]; rfl) | rfl) Try.sizeOf3 rfl rfl) fun _ => ?_
    refine JT_done (by kernel_rfl) ?_
    refine JE_seq ?_
    refine JC_draw [15] (by kernel_rfl) ?_
    refine JA_pd (i := 0) rfl (by kernel_rfl) rfl rfl (det_fieldAddr rfl fo_52_2) ?_
    refine JA_dt (i := 1) rfl (by kernel_rfl) (by kernel_rfl) rfl rfl (det_loadK rfl Try.isAgg3 rfl) ?_
    refine JA_pd (i := 2) rfl (by kernel_rfl) rfl rfl (det_move rfl) ?_
    refine JA_pd (i := 3) rfl (by kernel_rfl) rfl rfl (det_move rfl) ?_
    refine JA_dt (i := 4) rfl (by kernel_rfl) (by kernel_rfl) rfl rfl (det_indexAddr rfl rfl (by first | rfl | omega) (by first | assumption | omega | decide) Try.runUnderlying22 Try.sizeOf3) ?_
    refine JA_dt (i := 5) rfl (by kernel_rfl) (by kernel_rfl) rfl rfl (det_loadE rfl (by first | assumption | omega | decide) Try.isAgg3 rfl rfl) ?_
    refine JA_pd (i := 6) rfl (by kernel_rfl) rfl rfl (det_move rfl) ?_
    refine JA_pd (i := 7) rfl (by kernel_rfl) rfl rfl (det_move rfl) ?_
    refine JA_dt (i := 8) rfl (by kernel_rfl) (by kernel_rfl) rfl rfl (det_indexAddr rfl rfl (by first | rfl | omega) (by first | assumption | omega | decide) Try.runUnderlying50 Try.sizeOf54) ?_
    refine JA_pd (i := 9) rfl (by kernel_rfl) rfl rfl (det_fieldAddrE rfl fo_54_1) ?_
    refine JA_pd (i := 10) rfl (by kernel_rfl) rfl rfl (det_fieldAddrEk (k2 := 3) rfl fo_52_2 rfl) ?_
    refine JA_dt (i := 11) rfl (by kernel_rfl) (by kernel_rfl) rfl rfl (det_loadEk rfl (by first | assumption | omega | decide) Try.isAgg3 rfl rfl) ?_
    refine JA_pd (i := 12) rfl (by kernel_rfl) rfl rfl (det_mul rfl rfl ⟨by omega, by omega⟩) ?_
    refine JA_pd (i := 13) rfl (by kernel_rfl) rfl rfl (det_add rfl rfl ⟨by omega, by omega⟩) ?_
    refine JA_pd (i := 14) rfl (by kernel_rfl) rfl rfl (det_fieldAddr rfl fo_52_2) ?_
    refine JA_tail (i := 15) (by kernel_rfl) rfl rfl rfl rfl (jo_store rfl rfl rfl (by first | (simp only [splice_norm]; done) | (simp only [splice_norm]; rfl) | rfl) Try.sizeOf3 rfl rfl) fun _ => ?_
    refine JT_done (by kernel_rfl) ?_
    refine JE_block ?_
    refine JE_seq ?_
    refine JC_region ?_
    refine JL_pd rfl (det_move rfl) ?_
    refine JL_pd rfl (det_add rfl rfl ⟨by omega, by omega⟩) ?_
    refine JL_pd rfl (det_assign rfl) ?_
    refine JL_nil ?_
    -- stop: end
    refine JE_roundF hK (i + 1) (by omega) (by omega) (stsub_consI rfl (by omega) stsub_nil) (ht_bx (by rw [hs]; rfl) ht_nil)
  · obtain rfl : i = ls.length := by omega
    rw [List.take_length, ← h1, List.take_length]
    rw [h1]
    refine JC_exit ?_
    refine JE_seq_exit ?_
    refine JE_then_exit ?_
    refine JE_block_here ?_
    refine JE_seq ?_
    refine JC_seq ?_
    refine JC_region ?_
    refine JL_pd rfl (det_fieldAddr rfl fo_52_0) ?_
    refine JL_dt rfl (det_loadK rfl Try.isAgg3 rfl) ?_
    refine JL_pd rfl (det_fieldAddr rfl fo_52_0) ?_
    refine JL_dt rfl (det_loadK rfl Try.isAgg3 rfl) ?_
    refine JL_pd rfl (det_geq rfl rfl) ?_
    refine JL_pd rfl (det_move rfl) ?_
    -- stop: guard 5
    refine JL_join1 14 6 (.bool (decide (need.g ≤ (hvP ls p).g) && decide (need.q ≤ (hvP ls p).q) && decide (need.s ≤ (hvP ls p).s))) (fun hj => ?_) ?_
    · refine JL_split (d0 := 65) rfl (fun q17 => ?_) (fun q17 => ?_)
      · refine JL_guard rfl rfl q17 ?_
        refine JL_pd rfl (det_fieldAddr rfl fo_52_1) ?_
        refine JL_guard rfl rfl q17 ?_
        refine JL_dt rfl (det_loadK rfl Try.isAgg3 rfl) ?_
        refine JL_guard rfl rfl q17 ?_
        refine JL_pd rfl (det_fieldAddr rfl fo_52_1) ?_
        refine JL_guard rfl rfl q17 ?_
        refine JL_dt rfl (det_loadK rfl Try.isAgg3 rfl) ?_
        refine JL_guard rfl rfl q17 ?_
        refine JL_pd rfl (det_geq rfl rfl) ?_
        refine JL_pd rfl (det_pick_t rfl q17 rfl) ?_
        refine JL_pd rfl (det_move rfl) ?_
        refine JL_split (d0 := 72) rfl (fun q18 => ?_) (fun q18 => ?_)
        · refine JL_guard rfl rfl q18 ?_
          refine JL_pd rfl (det_fieldAddr rfl fo_52_2) ?_
          refine JL_guard rfl rfl q18 ?_
          refine JL_dt rfl (det_loadK rfl Try.isAgg3 rfl) ?_
          refine JL_guard rfl rfl q18 ?_
          refine JL_pd rfl (det_fieldAddr rfl fo_52_2) ?_
          refine JL_guard rfl rfl q18 ?_
          refine JL_dt rfl (det_loadK rfl Try.isAgg3 rfl) ?_
          refine JL_guard rfl rfl q18 ?_
          refine JL_pd rfl (det_geq rfl rfl) ?_
          refine JL_pd rfl (det_pick_t rfl q18 rfl) ?_
          refine JL_pd rfl (det_assign rfl) ?_
          exact hj (by kernel_rfl) (stsub_consB rfl (by clear hj; first | rfl | (simp only [q17, q18, Bool.and_true, Bool.true_and, Bool.false_and, Bool.and_false, Bool.or_true, Bool.true_or, Bool.or_false, Bool.false_or, Bool.not_true, Bool.not_false]; done) | (simp [q17, q18]; done) | (simp at q17; done) | (simp at q18; done) | (simp [q17, q18] <;> omega) | (exfalso; simp at q17 q18; omega) | (simp [q18] at q17; done) | (simp [q17] at q18; done)) stsub_nil)
        · refine JL_skip rfl rfl q18 rfl ?_
          refine JL_skip rfl rfl q18 rfl ?_
          refine JL_skip rfl rfl q18 rfl ?_
          refine JL_skip rfl rfl q18 rfl ?_
          refine JL_skip rfl rfl q18 rfl ?_
          refine JL_pd rfl (det_pick_f rfl q18 rfl) ?_
          refine JL_pd rfl (det_assign rfl) ?_
          exact hj (by kernel_rfl) (stsub_consB rfl (by clear hj; first | rfl | (simp only [q17, q18, Bool.and_true, Bool.true_and, Bool.false_and, Bool.and_false, Bool.or_true, Bool.true_or, Bool.or_false, Bool.false_or, Bool.not_true, Bool.not_false]; done) | (simp [q17, q18]; done) | (simp at q17; done) | (simp at q18; done) | (simp [q17, q18] <;> omega) | (exfalso; simp at q17 q18; omega) | (simp [q18] at q17; done) | (simp [q17] at q18; done)) stsub_nil)
      · refine JL_skip rfl rfl q17 rfl ?_
        refine JL_skip rfl rfl q17 rfl ?_
        refine JL_skip rfl rfl q17 rfl ?_
        refine JL_skip rfl rfl q17 rfl ?_
        refine JL_skip rfl rfl q17 rfl ?_
        refine JL_pd rfl (det_pick_f rfl q17 rfl) ?_
        refine JL_pd rfl (det_move rfl) ?_
        refine JL_split (d0 := 72) rfl (fun q19 => ?_) (fun q19 => ?_)
        · refine JL_guard rfl rfl q19 ?_
          refine JL_pd rfl (det_fieldAddr rfl fo_52_2) ?_
          refine JL_guard rfl rfl q19 ?_
          refine JL_dt rfl (det_loadK rfl Try.isAgg3 rfl) ?_
          refine JL_guard rfl rfl q19 ?_
          refine JL_pd rfl (det_fieldAddr rfl fo_52_2) ?_
          refine JL_guard rfl rfl q19 ?_
          refine JL_dt rfl (det_loadK rfl Try.isAgg3 rfl) ?_
          refine JL_guard rfl rfl q19 ?_
          refine JL_pd rfl (det_geq rfl rfl) ?_
          refine JL_pd rfl (det_pick_t rfl q19 rfl) ?_
          refine JL_pd rfl (det_assign rfl) ?_
          exact hj (by kernel_rfl) (stsub_consB rfl (by clear hj; first | rfl | (simp only [q17, q19, Bool.and_true, Bool.true_and, Bool.false_and, Bool.and_false, Bool.or_true, Bool.true_or, Bool.or_false, Bool.false_or, Bool.not_true, Bool.not_false]; done) | (simp [q17, q19]; done) | (simp at q17; done) | (simp at q19; done) | (simp [q17, q19] <;> omega) | (exfalso; simp at q17 q19; omega) | (simp [q19] at q17; done) | (simp [q17] at q19; done)) stsub_nil)
        · refine JL_skip rfl rfl q19 rfl ?_
          refine JL_skip rfl rfl q19 rfl ?_
          refine JL_skip rfl rfl q19 rfl ?_
          refine JL_skip rfl rfl q19 rfl ?_
          refine JL_skip rfl rfl q19 rfl ?_
          refine JL_pd rfl (det_pick_f rfl q19 rfl) ?_
          refine JL_pd rfl (det_assign rfl) ?_
          exact hj (by kernel_rfl) (stsub_consB rfl (by clear hj; first | rfl | (simp only [q17, q19, Bool.and_true, Bool.true_and, Bool.false_and, Bool.and_false, Bool.or_true, Bool.true_or, Bool.or_false, Bool.false_or, Bool.not_true, Bool.not_false]; done) | (simp [q17, q19]; done) | (simp at q17; done) | (simp at q19; done) | (simp [q17, q19] <;> omega) | (exfalso; simp at q17 q19; omega) | (simp [q19] at q17; done) | (simp [q17] at q19; done)) stsub_nil)
    refine JL_nil ?_
    refine JE_seq ?_
    refine JC_ret ?_
    -- stop: out
    refine JE_out (.inl rfl) () (results1 Try.results44 (res_tmp rfl)) (by unfold leA; congr 1; rw [Bool.eq_iff_iff]; simp only [Bool.and_eq_true, decide_eq_true_eq]; omega) (List.Perm.refl _) (fun _ _ => trivial)
set_option maxRecDepth 100000 in
theorem Cost_j (a : Option Addr) (c : Nat) (ls : List Of) (at_ : Int) (pa : Option Addr) (pc : Nat) (p : List Int) (hl : ls.length ≤ 1000) (hV : ∀ o ∈ ls, VOf o) (hp : alP at_ ls p = true) : Cv Try.prog 45 [.slice a ls.length c, .slice pa p.length pc] (KAnd (KSl a ls.length c encO ls) (KSl pa p.length pc encI p)) (I (coP ls p)) := by
  have h1 := alP_len hp
  refine Cx_of Try.func45 rfl Try.ntmps45 rfl fun w0 M0 => ?_
  refine JC_seq ?_
  refine JC_region ?_
  refine JL_pd rfl (det_assign rfl) ?_
  refine JL_nil ?_
  refine JE_seq ?_
  refine JC_seq ?_
  refine JC_region ?_
  refine JL_pd rfl (det_assign rfl) ?_
  refine JL_nil ?_
  refine JE_seq ?_
  refine JC_seq ?_
  refine JC_seq ?_
  refine JC_region ?_
  refine JL_pd rfl (det_assign rfl) ?_
  refine JL_nil ?_
  refine JE_seq ?_
  refine JC_block ?_
  -- stop: loop
  refine JC_loopF (γ := Nat) (fun i => i ≤ ls.length) (fun i => [(6, I i), (5, I (coP (ls.take i) (p.take i)))]) (fun _ => []) (fun i => ls.length - i) 0 (Nat.zero_le _) (stsub_consI rfl rfl (stsub_consI rfl rfl stsub_nil)) ht_nil ?_
  intro i hi K hK
  dsimp only [List.cons_append, List.nil_append]
  have hb := hvP_0 (take_V hV i) (alP_take i hp)
  rw [List.length_take] at hb
  refine JC_seq ?_
  refine JC_seq ?_
  refine JC_region ?_
  refine JL_pd rfl (det_move rfl) ?_
  refine JL_pd rfl (det_move rfl) ?_
  refine JL_pd rfl (det_len rfl Try.runUnderlying50) ?_
  refine JL_pd rfl (det_lss rfl rfl) ?_
  refine JL_nil ?_
  refine JE_seq ?_
  -- stop: cond
  refine JC_if rfl (fun h2 => ?_) (fun h2 => ?_)
  · have hi2 : i < ls.length := by omega
    have hi3 : i < p.length := by omega
    have hv := hV _ (List.getElem_mem hi2)
    have hbb := buy_bd hv (alP_get hp i hi2 hi3)
    have hs := co_snoc h1 hi2
    generalize coP (ls.take i) (p.take i) = C at hb hs
    refine JC_skip ?_
    refine JE_seq ?_
    refine JC_seq ?_
    refine JC_block ?_
    refine JC_draw [] (by kernel_rfl) ?_
    refine JA_pd (i := 0) rfl (by kernel_rfl) rfl rfl (det_move rfl) ?_
    refine JA_pd (i := 1) rfl (by kernel_rfl) rfl rfl (det_move rfl) ?_
    refine JA_pd (i := 2) rfl (by kernel_rfl) rfl rfl (det_move rfl) ?_
    refine JA_dt (i := 3) rfl (by kernel_rfl) (by kernel_rfl) rfl rfl (det_indexAddr rfl rfl (by first | rfl | omega) (by first | assumption | omega | decide) Try.runUnderlying22 Try.sizeOf3) ?_
    refine JA_dt (i := 4) rfl (by kernel_rfl) (by kernel_rfl) rfl rfl (det_loadE rfl (by first | assumption | omega | decide) Try.isAgg3 rfl rfl) ?_
    refine JA_pd (i := 5) rfl (by kernel_rfl) rfl rfl (det_move rfl) ?_
    refine JA_pd (i := 6) rfl (by kernel_rfl) rfl rfl (det_move rfl) ?_
    refine JA_dt (i := 7) rfl (by kernel_rfl) (by kernel_rfl) rfl rfl (det_indexAddr rfl rfl (by first | rfl | omega) (by first | assumption | omega | decide) Try.runUnderlying50 Try.sizeOf54) ?_
    refine JA_pd (i := 8) rfl (by kernel_rfl) rfl rfl (det_fieldAddrE rfl fo_54_0) ?_
    refine JA_dt (i := 9) rfl (by kernel_rfl) (by kernel_rfl) rfl rfl (det_loadEk rfl (by first | assumption | omega | decide) Try.isAgg3 rfl rfl) ?_
    refine JA_pd (i := 10) rfl (by kernel_rfl) rfl rfl (det_mul rfl rfl ⟨by omega, by omega⟩) ?_
    refine JA_pd (i := 11) rfl (by kernel_rfl) rfl rfl (det_add rfl rfl ⟨by omega, by omega⟩) ?_
    refine JA_pd (i := 12) rfl (by kernel_rfl) rfl rfl (det_assign rfl) ?_
    refine JA_done (by kernel_rfl) ?_
    refine JE_block ?_
    refine JE_seq ?_
    refine JC_region ?_
    refine JL_pd rfl (det_move rfl) ?_
    refine JL_pd rfl (det_add rfl rfl ⟨by omega, by omega⟩) ?_
    refine JL_pd rfl (det_assign rfl) ?_
    refine JL_nil ?_
    -- stop: end
    refine JE_roundF hK (i + 1) (by omega) (by omega) (stsub_consI rfl (by omega) (stsub_consI rfl (by rw [hs]) stsub_nil)) ht_nil
  · obtain rfl : i = ls.length := by omega
    rw [List.take_length, ← h1, List.take_length]
    rw [h1]
    refine JC_exit ?_
    refine JE_seq_exit ?_
    refine JE_then_exit ?_
    refine JE_block_here ?_
    refine JE_seq ?_
    refine JC_seq ?_
    refine JC_region ?_
    refine JL_pd rfl (det_move rfl) ?_
    refine JL_pd rfl (det_assign rfl) ?_
    refine JL_nil ?_
    refine JE_seq ?_
    refine JC_ret ?_
    -- stop: out
    refine JE_out (.inl rfl) () (results1 Try.results45 (res_tmp rfl)) rfl (List.Perm.refl _) (fun _ _ => trivial)
set_option maxRecDepth 100000 in
theorem Many_j (pa : Option Addr) (pc : Nat) (p : List Int) (hl : p.length ≤ 1000) (hp : ∀ x ∈ p, 0 ≤ x ∧ x ≤ 1000) : Cv Try.prog 76 [.slice pa p.length pc] (KSl pa p.length pc encI p) (I p.sum) := by
  refine Cx_of Try.func76 rfl Try.ntmps76 rfl fun w0 M0 => ?_
  refine JC_seq ?_
  refine JC_region ?_
  refine JL_pd rfl (det_assign rfl) ?_
  refine JL_nil ?_
  refine JE_seq ?_
  refine JC_seq ?_
  refine JC_region ?_
  refine JL_pd rfl (det_assign rfl) ?_
  refine JL_nil ?_
  refine JE_seq ?_
  refine JC_seq ?_
  refine JC_seq ?_
  refine JC_region ?_
  refine JL_pd rfl (det_assign rfl) ?_
  refine JL_nil ?_
  refine JE_seq ?_
  refine JC_block ?_
  -- stop: loop
  refine JC_loopF (γ := Nat) (fun i => i ≤ p.length) (fun i => [(4, I i), (3, I (p.take i).sum)]) (fun _ => []) (fun i => p.length - i) 0 (Nat.zero_le _) (stsub_consI rfl rfl (stsub_consI rfl (by simp) stsub_nil)) ht_nil ?_
  intro i hi K hK
  dsimp only [List.cons_append, List.nil_append]
  have hb := sum_bd (p.take i) fun x hx => hp x (List.mem_of_mem_take hx)
  rw [List.length_take] at hb
  refine JC_seq ?_
  refine JC_seq ?_
  refine JC_region ?_
  refine JL_pd rfl (det_move rfl) ?_
  refine JL_pd rfl (det_move rfl) ?_
  refine JL_pd rfl (det_len rfl Try.runUnderlying22) ?_
  refine JL_pd rfl (det_lss rfl rfl) ?_
  refine JL_nil ?_
  refine JE_seq ?_
  -- stop: cond
  refine JC_if rfl (fun h2 => ?_) (fun h2 => ?_)
  · have hi2 : i < p.length := by omega
    have hx := hp _ (List.getElem_mem hi2)
    have hs := take_sum hi2
    refine JC_skip ?_
    refine JE_seq ?_
    refine JC_seq ?_
    refine JC_block ?_
    refine JC_region ?_
    refine JL_pd rfl (det_move rfl) ?_
    refine JL_pd rfl (det_move rfl) ?_
    refine JL_pd rfl (det_move rfl) ?_
    refine JL_dt rfl (det_indexAddr rfl rfl (by first | rfl | omega) (by first | assumption | omega | decide) Try.runUnderlying22 Try.sizeOf3) ?_
    refine JL_dt rfl (det_loadE rfl (by first | assumption | omega | decide) Try.isAgg3 rfl rfl) ?_
    refine JL_pd rfl (det_add rfl rfl ⟨by omega, by omega⟩) ?_
    refine JL_pd rfl (det_assign rfl) ?_
    refine JL_nil ?_
    refine JE_block ?_
    refine JE_seq ?_
    refine JC_region ?_
    refine JL_pd rfl (det_move rfl) ?_
    refine JL_pd rfl (det_add rfl rfl ⟨by omega, by omega⟩) ?_
    refine JL_pd rfl (det_assign rfl) ?_
    refine JL_nil ?_
    -- stop: end
    refine JE_roundF hK (i + 1) (by omega) (by omega) (stsub_consI rfl (by omega) (stsub_consI rfl (by omega) stsub_nil)) ht_nil
  · obtain rfl : i = p.length := by omega
    rw [List.take_length]
    refine JC_exit ?_
    refine JE_seq_exit ?_
    refine JE_then_exit ?_
    refine JE_block_here ?_
    refine JE_seq ?_
    refine JC_seq ?_
    refine JC_region ?_
    refine JL_pd rfl (det_move rfl) ?_
    refine JL_pd rfl (det_assign rfl) ?_
    refine JL_nil ?_
    refine JE_seq ?_
    refine JC_ret ?_
    -- stop: out
    refine JE_out (.inl rfl) () (results1 Try.results76 (res_tmp rfl)) rfl (List.Perm.refl _) (fun _ _ => trivial)
end Go.Proofs.Ytjbmkdbgobmclaa
