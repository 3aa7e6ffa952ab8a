/- Own texts, laid together: B40 B41 B42 B43 B44 B45 B46 B47 B48. Nothing is asked. -/
import Derived.Test.YthpkgabckklojaaGreatZE
import Derived.Test.YthpkgabckklojaaGreatZ4
set_option linter.unusedSimpArgs false
set_option linter.unusedVariables false
/- Bill, plain: purchases, and the best one. -/
namespace Go.Proofs.YthpkgabckklojaaGreat.Bl
open Go.RowKit Go.Shelf

theorem orL3 (a b c : Int) : orL [a, b, c] < 0 ↔ a < 0 ∨ (a = 0 ∧ (b < 0 ∨ (b = 0 ∧ c < 0))) := by
  unfold orL orL orL orL
  split <;> (try split) <;> (try split) <;> omega
theorem cmpL_neg : ∀ xs ys : List Int, cmpL ys xs = -cmpL xs ys
  | [], [] => rfl
  | [], _ :: _ => rfl
  | _ :: _, [] => rfl
  | x :: xs, y :: ys => by
    have ih := cmpL_neg xs ys
    unfold cmpL
    split <;> split <;> (try split) <;> omega
theorem cmpL_eq : ∀ xs ys : List Int, cmpL xs ys = 0 → xs = ys
  | [], [], _ => rfl
  | [], _ :: _, h => by cases h
  | _ :: _, [], h => by cases h
  | x :: xs, y :: ys, h => by
    unfold cmpL at h
    split at h
    · cases h
    · split at h
      · cases h
      · rw [cmpL_eq xs ys h, show x = y by omega]
theorem cmpL_self (xs : List Int) : cmpL xs xs = 0 := by have := cmpL_neg xs xs; omega
theorem cmpL_trans : ∀ xs ys zs : List Int, cmpL xs ys < 0 → cmpL ys zs < 0 → cmpL xs zs < 0
  | [], [], zs, h, _ => by simp [cmpL] at h
  | [], _ :: _, [], _, h => by simp [cmpL] at h
  | [], _ :: _, _ :: _, _, _ => by simp [cmpL]
  | _ :: _, [], _, h, _ => by simp [cmpL] at h
  | _ :: _, _ :: _, [], _, h => by simp [cmpL] at h
  | x :: xs, y :: ys, z :: zs, h1, h2 => by
    have ih := cmpL_trans xs ys zs
    unfold cmpL at h1 h2 ⊢
    split at h1
    · split at h2
      · rw [if_pos (by omega)]; decide
      · split at h2
        · omega
        · rw [if_pos (by omega)]; decide
    · split at h1
      · omega
      · split at h2
        · rw [if_pos (by omega)]; decide
        · split at h2
          · omega
          · rw [if_neg (by omega), if_neg (by omega)]; exact ih h1 h2
theorem befV_iff (x y : Bt) : befV x y < 0 ↔ x.cost - y.cost < 0 ∨ (x.cost - y.cost = 0 ∧ (x.many - y.many < 0 ∨ (x.many - y.many = 0 ∧ cmpL x.list y.list < 0))) := orL3 _ _ _
theorem befV_trans {x y z : Bt} (h1 : befV x y < 0) (h2 : befV y z < 0) : befV x z < 0 := by
  rw [befV_iff] at *
  have := cmpL_trans x.list y.list z.list
  omega
theorem befV_total {x y : Bt} (h1 : ¬ befV x y < 0) (h2 : ¬ befV y x < 0) : x = y := by
  rw [befV_iff] at *
  have h3 := cmpL_neg x.list y.list
  have h4 := cmpL_eq x.list y.list (by omega)
  obtain ⟨a, b, c⟩ := x
  obtain ⟨a', b', c'⟩ := y
  simp only at *
  subst h4
  rw [show b = b' by omega, show c = c' by omega]
theorem befV_irrefl (x : Bt) : ¬ befV x x < 0 := by
  rw [befV_iff]; have := cmpL_self x.list; omega
theorem befV_cmp {x y z : Bt} (h1 : ¬ befV x y < 0) (h2 : ¬ befV y z < 0) : ¬ befV x z < 0 := fun h => by
  -- x before z, z not behind y
  by_cases h3 : befV z y < 0
  · exact h1 (befV_trans h h3)
  · have := befV_total h2 h3
    subst this
    exact h1 h
theorem pickB_min {f : Nat → Option Bt} : ∀ {n i : Nat} {b : Bt}, i < n → f i = some b → ∃ c, pickB f n = some c ∧ ¬ befV b c < 0
  | n + 1, i, b, hi, h => by
    unfold pickB
    by_cases e : i = n
    · subst e
      rw [h]
      cases hp : pickB f i with
      | none => exact ⟨b, rfl, befV_irrefl b⟩
      | some d =>
        simp only
        split
        · exact ⟨b, rfl, befV_irrefl b⟩
        · rename_i h2; exact ⟨d, rfl, h2⟩
    · obtain ⟨c, h1, h2⟩ := pickB_min (f := f) (n := n) (i := i) (by omega) h
      rw [h1]
      cases hf : f n with
      | none => exact ⟨c, rfl, h2⟩
      | some d =>
        simp only
        split
        · rename_i h3; exact ⟨d, rfl, fun h4 => h2 (befV_trans h4 h3)⟩
        · exact ⟨c, rfl, h2⟩
/-- What a purchase has; what it costs; is it allowed, at an hour? -/
def hvP : List Of → List Int → Am
  | o :: os, n :: ns => ⟨n * o.am.g + (hvP os ns).g, n * o.am.q + (hvP os ns).q, n * o.am.s + (hvP os ns).s⟩
  | _, _ => ⟨0, 0, 0⟩
def coP : List Of → List Int → Int
  | o :: os, n :: ns => n * o.price + coP os ns
  | _, _ => 0
def alP (at_ : Int) : List Of → List Int → Bool
  | [], [] => true
  | o :: os, n :: ns => inI n 0 (mostV o at_) && alP at_ os ns
  | _, _ => false
def leA (a b : Am) : Bool := decide (a.g ≤ b.g ∧ a.q ≤ b.q ∧ a.s ≤ b.s)
def btP (l : List Of) (p : List Int) : Bt := ⟨p, coP l p, p.sum⟩
theorem alP_len {at_ : Int} : ∀ {l : List Of} {p : List Int}, alP at_ l p = true → p.length = l.length
  | [], [], _ => rfl
  | [], _ :: _, h => by cases h
  | _ :: _, [], h => by cases h
  | o :: os, n :: ns, h => by
    unfold alP at h
    rw [Bool.and_eq_true] at h
    rw [List.length_cons, List.length_cons, alP_len h.2]
theorem hvP_0 {at_ : Int} : ∀ {l : List Of} {p : List Int}, (∀ o ∈ l, VOf o) → alP at_ l p = true → 0 ≤ (hvP l p).g ∧ 0 ≤ (hvP l p).q ∧ 0 ≤ (hvP l p).s ∧ 0 ≤ coP l p ∧ coP l p ≤ 120000 * l.length ∧ (hvP l p).g ≤ 144 * l.length ∧ (hvP l p).q ≤ 144 * l.length ∧ (hvP l p).s ≤ 144 * l.length
  | [], [], _, _ => by simp [hvP, coP]
  | [], _ :: _, _, h => by cases h
  | _ :: _, [], _, h => by cases h
  | o :: os, n :: ns, hV, h => by
    have ho := hV o (List.mem_cons_self ..)
    unfold alP at h
    rw [Bool.and_eq_true, inI_iff] at h
    have hm := most_bd ho at_
    obtain ⟨i1, i2, i3, i4, i5, i6, i7, i8⟩ := hvP_0 (fun x hx => hV x (List.mem_cons_of_mem _ hx)) h.2
    have a1 := Int.mul_nonneg h.1.1 ho.am.g0
    have a2 := Int.mul_nonneg h.1.1 ho.am.q0
    have a3 := Int.mul_nonneg h.1.1 ho.am.s0
    have a4 := Int.mul_nonneg h.1.1 ho.p0
    have b1 : n * o.am.g ≤ 12 * 12 := Int.mul_le_mul (by omega) ho.am.g1 ho.am.g0 (by omega)
    have b2 : n * o.am.q ≤ 12 * 12 := Int.mul_le_mul (by omega) ho.am.q1 ho.am.q0 (by omega)
    have b3 : n * o.am.s ≤ 12 * 12 := Int.mul_le_mul (by omega) ho.am.s1 ho.am.s0 (by omega)
    have b4 : n * o.price ≤ 12 * 10000 := Int.mul_le_mul (by omega) ho.p1 ho.p0 (by omega)
    unfold hvP coP
    simp only [List.length_cons]
    omega
theorem wos_eq {need a : Am} (hn : am12 need) (ha : VAm a) : ∀ n : Nat, wos need a n = ⟨max 0 (need.g - n * a.g), max 0 (need.q - n * a.q), max 0 (need.s - n * a.s)⟩
  | 0 => by
    obtain ⟨h1, _, h2, _, h3, _⟩ := hn
    obtain ⟨g, q, s⟩ := need
    simp only at h1 h2 h3
    simp only [wos, Int.natCast_zero, Int.zero_mul, Int.sub_zero]
    congr 1 <;> omega
  | n + 1 => by
    have h1 := ha.g0
    have h2 := ha.q0
    have h3 := ha.s0
    have e : ∀ x : Int, ((n + 1 : Nat) : Int) * x = n * x + x := fun x => by rw [Int.natCast_add, Int.add_mul]; simp
    rw [wos, wos_eq hn ha n]
    unfold wo
    simp only [e]
    congr 1 <;> omega
theorem cov_step {need a H : Am} (hn : am12 need) (ha : VAm a) (h0 : 0 ≤ H.g ∧ 0 ≤ H.q ∧ 0 ≤ H.s) (n : Nat) : leA (wos need a n) H = leA need ⟨n * a.g + H.g, n * a.q + H.q, n * a.s + H.s⟩ := by
  rw [wos_eq hn ha]
  unfold leA
  simp only
  exact decide_eq_decide.2 (by omega)
theorem befV_add (o : Of) (n : Nat) (x y : Bt) : befV (addB o n x) (addB o n y) < 0 ↔ befV x y < 0 := by
  rw [befV_iff, befV_iff]
  unfold addB
  simp only
  rw [show cmpL ((n : Int) :: x.list) ((n : Int) :: y.list) = cmpL x.list y.list from cmpL_same [(n : Int)] _ _]
  omega
theorem bst_sound (at_ : Int) : ∀ (l : List Of) (need : Am) (b : Bt), (∀ o ∈ l, VOf o) → am12 need → bst at_ l need = some b → alP at_ l b.list = true ∧ leA need (hvP l b.list) = true ∧ b = btP l b.list
  | [], need, b, _, _, h => by
    unfold bst at h
    split at h
    · rename_i e; subst e; cases h; exact ⟨rfl, rfl, rfl⟩
    · cases h
  | o :: os, need, b, hV, hn, h => by
    have ho := hV o (List.mem_cons_self ..)
    have hm := most_bd ho at_
    have hV' : ∀ x ∈ os, VOf x := fun x hx => hV x (List.mem_cons_of_mem _ hx)
    unfold bst at h
    obtain ⟨i, hi, e⟩ := pickB_mem h
    obtain ⟨r, hr, rfl⟩ := Option.map_eq_some_iff.1 e
    obtain ⟨h1, h2, h3⟩ := bst_sound at_ os _ r hV' (wos12 hn ho.am i) hr
    have h0 := hvP_0 hV' h1
    rw [cov_step hn ho.am ⟨h0.1, h0.2.1, h0.2.2.1⟩] at h2
    refine ⟨?_, h2, ?_⟩
    · show (inI (i : Int) 0 (mostV o at_) && alP at_ os r.list) = true
      rw [h1, inI_iff.2 ⟨by omega, by omega⟩]; rfl
    · have hc : r.cost = coP os r.list := congrArg Bt.cost h3
      have hm2 : r.many = r.list.sum := congrArg Bt.many h3
      unfold addB btP
      simp only [coP, List.sum_cons, hc, hm2]
theorem bst_complete (at_ : Int) : ∀ (l : List Of) (need : Am) (p : List Int), (∀ o ∈ l, VOf o) → am12 need → alP at_ l p = true → leA need (hvP l p) = true → ∃ b, bst at_ l need = some b ∧ ¬ befV (btP l p) b < 0
  | [], need, [], _, hn, _, h => by
    obtain ⟨h1, _, h2, _, h3, _⟩ := hn
    have h := of_decide_eq_true h
    have : need = ⟨0, 0, 0⟩ := by
      obtain ⟨g, q, s⟩ := need
      simp only [hvP] at *
      congr 1 <;> omega
    unfold bst
    rw [if_pos this]
    exact ⟨_, rfl, befV_irrefl _⟩
  | [], _, _ :: _, _, _, h, _ => by cases h
  | _ :: _, _, [], _, _, h, _ => by cases h
  | o :: os, need, n :: ns, hV, hn, h1, h2 => by
    have ho := hV o (List.mem_cons_self ..)
    have hm := most_bd ho at_
    have hV' : ∀ x ∈ os, VOf x := fun x hx => hV x (List.mem_cons_of_mem _ hx)
    unfold alP at h1
    rw [Bool.and_eq_true, inI_iff] at h1
    obtain ⟨k, rfl⟩ : ∃ k : Nat, n = k := ⟨n.toNat, by omega⟩
    have h0 := hvP_0 hV' h1.2
    have h3 : leA (wos need o.am k) (hvP os ns) = true := by rw [cov_step hn ho.am ⟨h0.1, h0.2.1, h0.2.2.1⟩]; exact h2
    obtain ⟨r, e1, e2⟩ := bst_complete at_ os _ ns hV' (wos12 hn ho.am k) h1.2 h3
    obtain ⟨c, e3, e4⟩ := pickB_min (f := fun n => (bst at_ os (wos need o.am n)).map (addB o n)) (n := (mostV o at_).toNat + 1) (i := k) (b := addB o k r) (by omega) (by simp only [e1, Option.map_some])
    refine ⟨c, by unfold bst; exact e3, befV_cmp (y := addB o k r) ?_ e4⟩
    have e5 : btP (o :: os) ((k : Int) :: ns) = addB o k (btP os ns) := by unfold btP addB; simp only [coP, List.sum_cons]
    rw [e5, befV_add]
    exact e2
/-- The best purchase is the one that is not behind any other. -/
theorem bst_unique {at_ : Int} {l : List Of} {need : Am} {p : List Int} (hV : ∀ o ∈ l, VOf o) (hn : am12 need) (h1 : alP at_ l p = true) (h2 : leA need (hvP l p) = true) (h3 : ∀ q, alP at_ l q = true → leA need (hvP l q) = true → ¬ befV (btP l q) (btP l p) < 0) : bst at_ l need = some (btP l p) := by
  obtain ⟨b, e1, e2⟩ := bst_complete at_ l need p hV hn h1 h2
  obtain ⟨s1, s2, s3⟩ := bst_sound at_ l need b hV hn e1
  have h4 := h3 b.list s1 s2
  rw [← s3] at h4
  rw [e1, befV_total h4 e2]
end Go.Proofs.YthpkgabckklojaaGreat.Bl

/- Walks of bill and of its reference: purchases. -/
namespace Go.Proofs.YthpkgabckklojaaGreat.Bl
open Go.RowKit Go.Shelf

theorem hvP_app : ∀ (l : List Of) (p : List Int) (o : Of) (n : Int), l.length = p.length → hvP (l ++ [o]) (p ++ [n]) = ⟨(hvP l p).g + n * o.am.g, (hvP l p).q + n * o.am.q, (hvP l p).s + n * o.am.s⟩
  | [], [], o, n, _ => by simp [hvP]
  | x :: l, y :: p, o, n, h => by
    have ih := hvP_app l p o n (by simpa using h)
    rw [List.cons_append, List.cons_append, hvP, hvP, ih]
    simp only [Int.add_assoc]
theorem coP_app : ∀ (l : List Of) (p : List Int) (o : Of) (n : Int), l.length = p.length → coP (l ++ [o]) (p ++ [n]) = coP l p + n * o.price
  | [], [], o, n, _ => by simp [coP]
  | x :: l, y :: p, o, n, h => by
    have ih := coP_app l p o n (by simpa using h)
    rw [List.cons_append, List.cons_append, coP, coP, ih, Int.add_assoc]
theorem alP_app (at_ : Int) : ∀ (l : List Of) (p : List Int) (o : Of) (n : Int), l.length = p.length → alP at_ (l ++ [o]) (p ++ [n]) = (alP at_ l p && inI n 0 (mostV o at_))
  | [], [], o, n, _ => by simp [alP]
  | x :: l, y :: p, o, n, h => by
    have ih := alP_app at_ l p o n (by simpa using h)
    rw [List.cons_append, List.cons_append, alP, alP, ih, Bool.and_assoc]
theorem alP_get {at_ : Int} : ∀ {l : List Of} {p : List Int}, alP at_ l p = true → ∀ i (h1 : i < l.length) (h2 : i < p.length), inI p[i] 0 (mostV l[i] at_) = true
  | o :: os, n :: ns, h, i, h1, h2 => by
    unfold alP at h
    rw [Bool.and_eq_true] at h
    cases i with
    | zero => exact h.1
    | succ i => exact alP_get h.2 i (by simpa using h1) (by simpa using h2)
theorem alP_take {at_ : Int} : ∀ {l : List Of} {p : List Int} (i : Nat), alP at_ l p = true → alP at_ (l.take i) (p.take i) = true
  | [], [], i, _ => by simp [alP]
  | [], _ :: _, _, h => by cases h
  | _ :: _, [], _, h => by cases h
  | o :: os, n :: ns, 0, _ => rfl
  | o :: os, n :: ns, i + 1, h => by
    unfold alP at h
    rw [Bool.and_eq_true] at h
    rw [List.take_succ_cons, List.take_succ_cons, alP, h.1, alP_take i h.2]; rfl
theorem take_two {l : List Of} {p : List Int} {i : Nat} (h : p.length = l.length) (hi : i < l.length) : (l.take i).length = (p.take i).length := by rw [List.length_take, List.length_take]; omega
theorem hv_snoc {l : List Of} {p : List Int} {i : Nat} (h : p.length = l.length) (hi : i < l.length) : hvP (l.take (i + 1)) (p.take (i + 1)) = ⟨(hvP (l.take i) (p.take i)).g + p[i] * l[i].am.g, (hvP (l.take i) (p.take i)).q + p[i] * l[i].am.q, (hvP (l.take i) (p.take i)).s + p[i] * l[i].am.s⟩ := by
  rw [take_snoc hi, take_snoc (show i < p.length by omega), hvP_app _ _ _ _ (take_two h hi)]
theorem co_snoc {l : List Of} {p : List Int} {i : Nat} (h : p.length = l.length) (hi : i < l.length) : coP (l.take (i + 1)) (p.take (i + 1)) = coP (l.take i) (p.take i) + p[i] * l[i].price := by
  rw [take_snoc hi, take_snoc (show i < p.length by omega), coP_app _ _ _ _ (take_two h hi)]
theorem al_snoc {at_ : Int} {l : List Of} {p : List Int} {i : Nat} (h : p.length = l.length) (hi : i < l.length) : alP at_ (l.take (i + 1)) (p.take (i + 1)) = (alP at_ (l.take i) (p.take i) && inI p[i] 0 (mostV l[i] at_)) := by
  rw [take_snoc hi, take_snoc (show i < p.length by omega), alP_app _ _ _ _ _ (take_two h hi)]
theorem take_V {l : List Of} (hV : ∀ o ∈ l, VOf o) (i : Nat) : ∀ o ∈ l.take i, VOf o := fun o h => hV o (List.mem_of_mem_take h)
/-- What one offer, bought some times, has and costs. -/
theorem buy_bd {o : Of} (ho : VOf o) {at_ n : Int} (h : inI n 0 (mostV o at_) = true) : 0 ≤ n ∧ n ≤ 12 ∧ 0 ≤ n * o.am.g ∧ n * o.am.g ≤ 144 ∧ 0 ≤ n * o.am.q ∧ n * o.am.q ≤ 144 ∧ 0 ≤ n * o.am.s ∧ n * o.am.s ≤ 144 ∧ 0 ≤ n * o.price ∧ n * o.price ≤ 120000 := by
  have h := inI_iff.1 h
  have hm := most_bd ho at_
  have a1 := Int.mul_nonneg h.1 ho.am.g0
  have a2 := Int.mul_nonneg h.1 ho.am.q0
  have a3 := Int.mul_nonneg h.1 ho.am.s0
  have a4 := Int.mul_nonneg h.1 ho.p0
  have b1 : n * o.am.g ≤ 12 * 12 := Int.mul_le_mul (by omega) ho.am.g1 ho.am.g0 (by omega)
  have b2 : n * o.am.q ≤ 12 * 12 := Int.mul_le_mul (by omega) ho.am.q1 ho.am.q0 (by omega)
  have b3 : n * o.am.s ≤ 12 * 12 := Int.mul_le_mul (by omega) ho.am.s1 ho.am.s0 (by omega)
  have b4 : n * o.price ≤ 12 * 10000 := Int.mul_le_mul (by omega) ho.p1 ho.p0 (by omega)
  omega
set_option maxRecDepth 100000 in
theorem Fault_j (a : Option Addr) (c : Nat) (ls : List Of) (hl : ls.length ≤ 1000) : Cv Tryz.prog 29 [.slice a ls.length c] (KSl a ls.length c encO ls) (I (tarE ls)) := by
  refine Cx_of Tryz.func29 rfl Tryz.ntmps29 rfl fun w0 M0 => ?_
  refine JC_seq ?_
  refine JC_region ?_
  refine JL_pd rfl (det_assign rfl) ?_
  refine JL_nil ?_
  refine JE_seq ?_
  refine JC_seq ?_
  refine JC_seq ?_
  refine JC_region ?_
  refine JL_pd rfl (det_move rfl) ?_
  refine JL_pd rfl (det_len rfl Tryz.runUnderlying81) ?_
  refine JL_pd rfl (det_gtr rfl rfl) ?_
  refine JL_nil ?_
  refine JE_seq ?_
  -- stop: cond
  refine JC_if rfl (fun h0 => ?_) (fun h0 => ?_)
  · refine JC_seq ?_
    refine JC_region ?_
    refine JL_pd rfl (det_assign rfl) ?_
    refine JL_nil ?_
    refine JE_seq ?_
    refine JC_ret ?_
    refine JE_seq_ret ?_
    -- stop: out
    refine JE_out (.inl rfl) () (results1 Tryz.results29 (res_tmp rfl)) (by unfold tarE; rw [if_pos (by omega)]) (List.Perm.refl _) (fun _ _ => trivial)
  · refine JC_skip ?_
    refine JE_seq ?_
    refine JC_seq ?_
    refine JC_seq ?_
    refine JC_region ?_
    refine JL_pd rfl (det_assign rfl) ?_
    refine JL_nil ?_
    refine JE_seq ?_
    refine JC_block ?_
    -- stop: loop
    refine JC_loopF (γ := Nat) (fun i => i ≤ ls.length ∧ (ls.take i).all ofOk = true) (fun i => [(3, I i)]) (fun _ => []) (fun i => ls.length - i) 0 ⟨Nat.zero_le _, rfl⟩ (stsub_consI rfl rfl stsub_nil) ht_nil ?_
    rintro i ⟨hi, ha⟩ K hK
    dsimp only [List.cons_append, List.nil_append]
    refine JC_seq ?_
    refine JC_seq ?_
    refine JC_region ?_
    refine JL_pd rfl (det_move rfl) ?_
    refine JL_pd rfl (det_move rfl) ?_
    refine JL_pd rfl (det_len rfl Tryz.runUnderlying81) ?_
    refine JL_pd rfl (det_lss rfl rfl) ?_
    refine JL_nil ?_
    refine JE_seq ?_
    -- stop: cond
    refine JC_if rfl (fun h1 => ?_) (fun h1 => ?_)
    · have hi2 : i < ls.length := by omega
      have heq : (!inI ls[i].price 0 10000 || !amOk ls[i].am || !inI ls[i].lo 0 ls[i].hi || decide (23 < ls[i].hi) || !inI ls[i].most 0 12) = !ofOk ls[i] := by
        unfold ofOk inI
        generalize amOk ls[i].am = A
        rw [Bool.eq_iff_iff]
        cases A <;> simp <;> omega
      refine JC_skip ?_
      refine JE_seq ?_
      refine JC_seq ?_
      refine JC_block ?_
      refine JC_seq ?_
      refine JC_region ?_
      refine JL_pd rfl (det_move rfl) ?_
      refine JL_pd rfl (det_move rfl) ?_
      refine JL_dt rfl (det_indexAddr rfl rfl (by first | rfl | omega) (by first | assumption | omega | decide) Tryz.runUnderlying81 Tryz.sizeOf162) ?_
      refine JL_dt rfl (det_loadEA rfl (by first | assumption | omega | decide) Tryz.isAgg162 Tryz.sizeOf162 rfl rfl rfl) ?_
      refine JL_step rfl rfl rfl (jo_alloc0 Tryz.zeroValue162 rfl) fun b4 => ?_
      refine JL_step0 rfl rfl (jo_store rfl rfl rfl (by first | (simp only [splice_norm]; done) | (simp only [splice_norm]; rfl) | rfl) Tryz.sizeOf162 rfl rfl) fun _ => ?_
      refine JL_nil ?_
      refine JE_seq ?_
      refine JC_seq ?_
      refine JC_region ?_
      refine JL_pd rfl (det_fieldAddr rfl fo_162_0) ?_
      refine JL_dt rfl (det_loadK rfl Tryz.isAgg3 rfl) ?_
      refine JL_step rfl rfl rfl (jo_callv rfl rfl Tryz.call74 rfl (In_j _ _ _)) fun _ => ?_
      refine JL_pd rfl (det_not rfl) ?_
      refine JL_pd rfl (det_move rfl) ?_
      -- stop: guard 4
      refine JL_join1 27 49 (.bool (!inI ls[i].price 0 10000 || !amOk ls[i].am || !inI ls[i].lo 0 ls[i].hi || decide (23 < ls[i].hi) || !inI ls[i].most 0 12)) (fun hj => ?_) ?_
      · refine JL_split (d0 := 22) rfl (fun q1 => ?_) (fun q1 => ?_)
        · refine JL_skip rfl rfl q1 rfl ?_
          refine JL_skip rfl rfl q1 rfl ?_
          refine JL_skip rfl rfl q1 rfl ?_
          refine JL_skip rfl rfl q1 rfl ?_
          refine JL_pd rfl (det_pick_t rfl q1 rfl) ?_
          refine JL_pd rfl (det_move rfl) ?_
          refine JL_split (d0 := 28) rfl (fun q2 => ?_) (fun q2 => ?_)
          · refine JL_skip rfl rfl q2 rfl ?_
            refine JL_skip rfl rfl q2 rfl ?_
            refine JL_skip rfl rfl q2 rfl ?_
            refine JL_skip rfl rfl q2 rfl ?_
            refine JL_skip rfl rfl q2 rfl ?_
            refine JL_skip rfl rfl q2 rfl ?_
            refine JL_skip rfl rfl q2 rfl ?_
            refine JL_skip rfl rfl q2 rfl ?_
            refine JL_pd rfl (det_pick_t rfl q2 rfl) ?_
            refine JL_pd rfl (det_move rfl) ?_
            refine JL_split (d0 := 38) rfl (fun q3 => ?_) (fun q3 => ?_)
            · refine JL_skip rfl rfl q3 rfl ?_
              refine JL_skip rfl rfl q3 rfl ?_
              refine JL_skip rfl rfl q3 rfl ?_
              refine JL_skip rfl rfl q3 rfl ?_
              refine JL_pd rfl (det_pick_t rfl q3 rfl) ?_
              refine JL_pd rfl (det_move rfl) ?_
              refine JL_split (d0 := 44) rfl (fun q4 => ?_) (fun q4 => ?_)
              · refine JL_skip rfl rfl q4 rfl ?_
                refine JL_skip rfl rfl q4 rfl ?_
                refine JL_skip rfl rfl q4 rfl ?_
                refine JL_skip rfl rfl q4 rfl ?_
                refine JL_pd rfl (det_pick_t rfl q4 rfl) ?_
                exact hj (by kernel_rfl) (stsub_consB rfl (by clear hj; first | rfl | (simp only [q1, q2, q3, q4, Bool.and_true, Bool.true_and, Bool.false_and, Bool.and_false, Bool.or_true, Bool.true_or, Bool.or_false, Bool.false_or, Bool.not_true, Bool.not_false]; done) | (simp [q1, q2, q3, q4]; done) | (simp at q1; done) | (simp at q2; done) | (simp at q3; done) | (simp at q4; done) | (simp [q1, q2, q3, q4] <;> omega) | (exfalso; simp at q1 q2 q3 q4; omega) | (simp [q2, q3, q4] at q1; done) | (simp [q1, q3, q4] at q2; done) | (simp [q1, q2, q4] at q3; done) | (simp [q1, q2, q3] at q4; done)) stsub_nil)
              · refine JL_guard rfl rfl q4 ?_
                refine JL_pd rfl (det_fieldAddr rfl fo_162_3) ?_
                refine JL_guard rfl rfl q4 ?_
                refine JL_dt rfl (det_loadK rfl Tryz.isAgg3 rfl) ?_
                refine JL_guard rfl rfl q4 ?_
                refine JL_step rfl rfl rfl (jo_callv rfl rfl Tryz.call74 rfl (In_j _ _ _)) fun _ => ?_
                refine JL_guard rfl rfl q4 ?_
                refine JL_pd rfl (det_not rfl) ?_
                refine JL_pd rfl (det_pick_f rfl q4 rfl) ?_
                exact hj (by kernel_rfl) (stsub_consB rfl (by clear hj; first | rfl | (simp only [q1, q2, q3, q4, Bool.and_true, Bool.true_and, Bool.false_and, Bool.and_false, Bool.or_true, Bool.true_or, Bool.or_false, Bool.false_or, Bool.not_true, Bool.not_false]; done) | (simp [q1, q2, q3, q4]; done) | (simp at q1; done) | (simp at q2; done) | (simp at q3; done) | (simp at q4; done) | (simp [q1, q2, q3, q4] <;> omega) | (exfalso; simp at q1 q2 q3 q4; omega) | (simp [q2, q3, q4] at q1; done) | (simp [q1, q3, q4] at q2; done) | (simp [q1, q2, q4] at q3; done) | (simp [q1, q2, q3] at q4; done)) stsub_nil)
            · refine JL_guard rfl rfl q3 ?_
              refine JL_pd rfl (det_fieldAddr rfl fo_162_2) ?_
              refine JL_guard rfl rfl q3 ?_
              refine JL_pd rfl (det_fieldAddr rfl fo_160_1) ?_
              refine JL_guard rfl rfl q3 ?_
              refine JL_dt rfl (det_loadK rfl Tryz.isAgg3 rfl) ?_
              refine JL_guard rfl rfl q3 ?_
              refine JL_pd rfl (det_gtr rfl rfl) ?_
              refine JL_pd rfl (det_pick_f rfl q3 rfl) ?_
              refine JL_pd rfl (det_move rfl) ?_
              refine JL_split (d0 := 44) rfl (fun q5 => ?_) (fun q5 => ?_)
              · refine JL_skip rfl rfl q5 rfl ?_
                refine JL_skip rfl rfl q5 rfl ?_
                refine JL_skip rfl rfl q5 rfl ?_
                refine JL_skip rfl rfl q5 rfl ?_
                refine JL_pd rfl (det_pick_t rfl q5 rfl) ?_
                exact hj (by kernel_rfl) (stsub_consB rfl (by clear hj; first | rfl | (simp only [q1, q2, q3, q5, Bool.and_true, Bool.true_and, Bool.false_and, Bool.and_false, Bool.or_true, Bool.true_or, Bool.or_false, Bool.false_or, Bool.not_true, Bool.not_false]; done) | (simp [q1, q2, q3, q5]; done) | (simp at q1; done) | (simp at q2; done) | (simp at q3; done) | (simp at q5; done) | (simp [q1, q2, q3, q5] <;> omega) | (exfalso; simp at q1 q2 q3 q5; omega) | (simp [q2, q3, q5] at q1; done) | (simp [q1, q3, q5] at q2; done) | (simp [q1, q2, q5] at q3; done) | (simp [q1, q2, q3] at q5; done)) stsub_nil)
              · refine JL_guard rfl rfl q5 ?_
                refine JL_pd rfl (det_fieldAddr rfl fo_162_3) ?_
                refine JL_guard rfl rfl q5 ?_
                refine JL_dt rfl (det_loadK rfl Tryz.isAgg3 rfl) ?_
                refine JL_guard rfl rfl q5 ?_
                refine JL_step rfl rfl rfl (jo_callv rfl rfl Tryz.call74 rfl (In_j _ _ _)) fun _ => ?_
                refine JL_guard rfl rfl q5 ?_
                refine JL_pd rfl (det_not rfl) ?_
                refine JL_pd rfl (det_pick_f rfl q5 rfl) ?_
                exact hj (by kernel_rfl) (stsub_consB rfl (by clear hj; first | rfl | (simp only [q1, q2, q3, q5, Bool.and_true, Bool.true_and, Bool.false_and, Bool.and_false, Bool.or_true, Bool.true_or, Bool.or_false, Bool.false_or, Bool.not_true, Bool.not_false]; done) | (simp [q1, q2, q3, q5]; done) | (simp at q1; done) | (simp at q2; done) | (simp at q3; done) | (simp at q5; done) | (simp [q1, q2, q3, q5] <;> omega) | (exfalso; simp at q1 q2 q3 q5; omega) | (simp [q2, q3, q5] at q1; done) | (simp [q1, q3, q5] at q2; done) | (simp [q1, q2, q5] at q3; done) | (simp [q1, q2, q3] at q5; done)) stsub_nil)
          · refine JL_guard rfl rfl q2 ?_
            refine JL_pd rfl (det_fieldAddr rfl fo_162_2) ?_
            refine JL_guard rfl rfl q2 ?_
            refine JL_pd rfl (det_fieldAddr rfl fo_160_0) ?_
            refine JL_guard rfl rfl q2 ?_
            refine JL_dt rfl (det_loadK rfl Tryz.isAgg3 rfl) ?_
            refine JL_guard rfl rfl q2 ?_
            refine JL_pd rfl (det_fieldAddr rfl fo_162_2) ?_
            refine JL_guard rfl rfl q2 ?_
            refine JL_pd rfl (det_fieldAddr rfl fo_160_1) ?_
            refine JL_guard rfl rfl q2 ?_
            refine JL_dt rfl (det_loadK rfl Tryz.isAgg3 rfl) ?_
            refine JL_guard rfl rfl q2 ?_
            refine JL_step rfl rfl rfl (jo_callv rfl rfl Tryz.call74 rfl (In_j _ _ _)) fun _ => ?_
            refine JL_guard rfl rfl q2 ?_
            refine JL_pd rfl (det_not rfl) ?_
            refine JL_pd rfl (det_pick_f rfl q2 rfl) ?_
            refine JL_pd rfl (det_move rfl) ?_
            refine JL_split (d0 := 38) rfl (fun q6 => ?_) (fun q6 => ?_)
            · refine JL_skip rfl rfl q6 rfl ?_
              refine JL_skip rfl rfl q6 rfl ?_
              refine JL_skip rfl rfl q6 rfl ?_
              refine JL_skip rfl rfl q6 rfl ?_
              refine JL_pd rfl (det_pick_t rfl q6 rfl) ?_
              refine JL_pd rfl (det_move rfl) ?_
              refine JL_split (d0 := 44) rfl (fun q7 => ?_) (fun q7 => ?_)
              · refine JL_skip rfl rfl q7 rfl ?_
                refine JL_skip rfl rfl q7 rfl ?_
                refine JL_skip rfl rfl q7 rfl ?_
                refine JL_skip rfl rfl q7 rfl ?_
                refine JL_pd rfl (det_pick_t rfl q7 rfl) ?_
                exact hj (by kernel_rfl) (stsub_consB rfl (by clear hj; first | rfl | (simp only [q1, q2, q6, q7, Bool.and_true, Bool.true_and, Bool.false_and, Bool.and_false, Bool.or_true, Bool.true_or, Bool.or_false, Bool.false_or, Bool.not_true, Bool.not_false]; done) | (simp [q1, q2, q6, q7]; done) | (simp at q1; done) | (simp at q2; done) | (simp at q6; done) | (simp at q7; done) | (simp [q1, q2, q6, q7] <;> omega) | (exfalso; simp at q1 q2 q6 q7; omega) | (simp [q2, q6, q7] at q1; done) | (simp [q1, q6, q7] at q2; done) | (simp [q1, q2, q7] at q6; done) | (simp [q1, q2, q6] at q7; done)) stsub_nil)
              · refine JL_guard rfl rfl q7 ?_
                refine JL_pd rfl (det_fieldAddr rfl fo_162_3) ?_
                refine JL_guard rfl rfl q7 ?_
                refine JL_dt rfl (det_loadK rfl Tryz.isAgg3 rfl) ?_
                refine JL_guard rfl rfl q7 ?_
                refine JL_step rfl rfl rfl (jo_callv rfl rfl Tryz.call74 rfl (In_j _ _ _)) fun _ => ?_
                refine JL_guard rfl rfl q7 ?_
                refine JL_pd rfl (det_not rfl) ?_
                refine JL_pd rfl (det_pick_f rfl q7 rfl) ?_
                exact hj (by kernel_rfl) (stsub_consB rfl (by clear hj; first | rfl | (simp only [q1, q2, q6, q7, Bool.and_true, Bool.true_and, Bool.false_and, Bool.and_false, Bool.or_true, Bool.true_or, Bool.or_false, Bool.false_or, Bool.not_true, Bool.not_false]; done) | (simp [q1, q2, q6, q7]; done) | (simp at q1; done) | (simp at q2; done) | (simp at q6; done) | (simp at q7; done) | (simp [q1, q2, q6, q7] <;> omega) | (exfalso; simp at q1 q2 q6 q7; omega) | (simp [q2, q6, q7] at q1; done) | (simp [q1, q6, q7] at q2; done) | (simp [q1, q2, q7] at q6; done) | (simp [q1, q2, q6] at q7; done)) stsub_nil)
            · refine JL_guard rfl rfl q6 ?_
              refine JL_pd rfl (det_fieldAddr rfl fo_162_2) ?_
              refine JL_guard rfl rfl q6 ?_
              refine JL_pd rfl (det_fieldAddr rfl fo_160_1) ?_
              refine JL_guard rfl rfl q6 ?_
              refine JL_dt rfl (det_loadK rfl Tryz.isAgg3 rfl) ?_
              refine JL_guard rfl rfl q6 ?_
              refine JL_pd rfl (det_gtr rfl rfl) ?_
              refine JL_pd rfl (det_pick_f rfl q6 rfl) ?_
              refine JL_pd rfl (det_move rfl) ?_
              refine JL_split (d0 := 44) rfl (fun q8 => ?_) (fun q8 => ?_)
              · refine JL_skip rfl rfl q8 rfl ?_
                refine JL_skip rfl rfl q8 rfl ?_
                refine JL_skip rfl rfl q8 rfl ?_
                refine JL_skip rfl rfl q8 rfl ?_
                refine JL_pd rfl (det_pick_t rfl q8 rfl) ?_
                exact hj (by kernel_rfl) (stsub_consB rfl (by clear hj; first | rfl | (simp only [q1, q2, q6, q8, Bool.and_true, Bool.true_and, Bool.false_and, Bool.and_false, Bool.or_true, Bool.true_or, Bool.or_false, Bool.false_or, Bool.not_true, Bool.not_false]; done) | (simp [q1, q2, q6, q8]; done) | (simp at q1; done) | (simp at q2; done) | (simp at q6; done) | (simp at q8; done) | (simp [q1, q2, q6, q8] <;> omega) | (exfalso; simp at q1 q2 q6 q8; omega) | (simp [q2, q6, q8] at q1; done) | (simp [q1, q6, q8] at q2; done) | (simp [q1, q2, q8] at q6; done) | (simp [q1, q2, q6] at q8; done)) stsub_nil)
              · refine JL_guard rfl rfl q8 ?_
                refine JL_pd rfl (det_fieldAddr rfl fo_162_3) ?_
                refine JL_guard rfl rfl q8 ?_
                refine JL_dt rfl (det_loadK rfl Tryz.isAgg3 rfl) ?_
                refine JL_guard rfl rfl q8 ?_
                refine JL_step rfl rfl rfl (jo_callv rfl rfl Tryz.call74 rfl (In_j _ _ _)) fun _ => ?_
                refine JL_guard rfl rfl q8 ?_
                refine JL_pd rfl (det_not rfl) ?_
                refine JL_pd rfl (det_pick_f rfl q8 rfl) ?_
                exact hj (by kernel_rfl) (stsub_consB rfl (by clear hj; first | rfl | (simp only [q1, q2, q6, q8, Bool.and_true, Bool.true_and, Bool.false_and, Bool.and_false, Bool.or_true, Bool.true_or, Bool.or_false, Bool.false_or, Bool.not_true, Bool.not_false]; done) | (simp [q1, q2, q6, q8]; done) | (simp at q1; done) | (simp at q2; done) | (simp at q6; done) | (simp at q8; done) | (simp [q1, q2, q6, q8] <;> omega) | (exfalso; simp at q1 q2 q6 q8; omega) | (simp [q2, q6, q8] at q1; done) | (simp [q1, q6, q8] at q2; done) | (simp [q1, q2, q8] at q6; done) | (simp [q1, q2, q6] at q8; done)) stsub_nil)
        · refine JL_guard rfl rfl q1 ?_
          refine JL_pd rfl (det_fieldAddr rfl fo_162_1) ?_
          refine JL_guard rfl rfl q1 ?_
          refine JL_dt rfl (det_loadKA rfl Tryz.isAgg96 Tryz.sizeOf96 rfl rfl) ?_
          refine JL_guard rfl rfl q1 ?_
          refine JL_step rfl rfl rfl (jo_callv rfl rfl Tryz.call75 rfl (IsAmount_j _)) fun _ => ?_
          refine JL_guard rfl rfl q1 ?_
          refine JL_pd rfl (det_not rfl) ?_
          refine JL_pd rfl (det_pick_f rfl q1 rfl) ?_
          refine JL_pd rfl (det_move rfl) ?_
          refine JL_split (d0 := 28) rfl (fun q9 => ?_) (fun q9 => ?_)
          · refine JL_skip rfl rfl q9 rfl ?_
            refine JL_skip rfl rfl q9 rfl ?_
            refine JL_skip rfl rfl q9 rfl ?_
            refine JL_skip rfl rfl q9 rfl ?_
            refine JL_skip rfl rfl q9 rfl ?_
            refine JL_skip rfl rfl q9 rfl ?_
            refine JL_skip rfl rfl q9 rfl ?_
            refine JL_skip rfl rfl q9 rfl ?_
            refine JL_pd rfl (det_pick_t rfl q9 rfl) ?_
            refine JL_pd rfl (det_move rfl) ?_
            refine JL_split (d0 := 38) rfl (fun q10 => ?_) (fun q10 => ?_)
            · refine JL_skip rfl rfl q10 rfl ?_
              refine JL_skip rfl rfl q10 rfl ?_
              refine JL_skip rfl rfl q10 rfl ?_
              refine JL_skip rfl rfl q10 rfl ?_
              refine JL_pd rfl (det_pick_t rfl q10 rfl) ?_
              refine JL_pd rfl (det_move rfl) ?_
              refine JL_split (d0 := 44) rfl (fun q11 => ?_) (fun q11 => ?_)
              · refine JL_skip rfl rfl q11 rfl ?_
                refine JL_skip rfl rfl q11 rfl ?_
                refine JL_skip rfl rfl q11 rfl ?_
                refine JL_skip rfl rfl q11 rfl ?_
                refine JL_pd rfl (det_pick_t rfl q11 rfl) ?_
                exact hj (by kernel_rfl) (stsub_consB rfl (by clear hj; first | rfl | (simp only [q1, q9, q10, q11, Bool.and_true, Bool.true_and, Bool.false_and, Bool.and_false, Bool.or_true, Bool.true_or, Bool.or_false, Bool.false_or, Bool.not_true, Bool.not_false]; done) | (simp [q1, q9, q10, q11]; done) | (simp at q1; done) | (simp at q9; done) | (simp at q10; done) | (simp at q11; done) | (simp [q1, q9, q10, q11] <;> omega) | (exfalso; simp at q1 q9 q10 q11; omega) | (simp [q9, q10, q11] at q1; done) | (simp [q1, q10, q11] at q9; done) | (simp [q1, q9, q11] at q10; done) | (simp [q1, q9, q10] at q11; done)) stsub_nil)
              · refine JL_guard rfl rfl q11 ?_
                refine JL_pd rfl (det_fieldAddr rfl fo_162_3) ?_
                refine JL_guard rfl rfl q11 ?_
                refine JL_dt rfl (det_loadK rfl Tryz.isAgg3 rfl) ?_
                refine JL_guard rfl rfl q11 ?_
                refine JL_step rfl rfl rfl (jo_callv rfl rfl Tryz.call74 rfl (In_j _ _ _)) fun _ => ?_
                refine JL_guard rfl rfl q11 ?_
                refine JL_pd rfl (det_not rfl) ?_
                refine JL_pd rfl (det_pick_f rfl q11 rfl) ?_
                exact hj (by kernel_rfl) (stsub_consB rfl (by clear hj; first | rfl | (simp only [q1, q9, q10, q11, Bool.and_true, Bool.true_and, Bool.false_and, Bool.and_false, Bool.or_true, Bool.true_or, Bool.or_false, Bool.false_or, Bool.not_true, Bool.not_false]; done) | (simp [q1, q9, q10, q11]; done) | (simp at q1; done) | (simp at q9; done) | (simp at q10; done) | (simp at q11; done) | (simp [q1, q9, q10, q11] <;> omega) | (exfalso; simp at q1 q9 q10 q11; omega) | (simp [q9, q10, q11] at q1; done) | (simp [q1, q10, q11] at q9; done) | (simp [q1, q9, q11] at q10; done) | (simp [q1, q9, q10] at q11; done)) stsub_nil)
            · refine JL_guard rfl rfl q10 ?_
              refine JL_pd rfl (det_fieldAddr rfl fo_162_2) ?_
              refine JL_guard rfl rfl q10 ?_
              refine JL_pd rfl (det_fieldAddr rfl fo_160_1) ?_
              refine JL_guard rfl rfl q10 ?_
              refine JL_dt rfl (det_loadK rfl Tryz.isAgg3 rfl) ?_
              refine JL_guard rfl rfl q10 ?_
              refine JL_pd rfl (det_gtr rfl rfl) ?_
              refine JL_pd rfl (det_pick_f rfl q10 rfl) ?_
              refine JL_pd rfl (det_move rfl) ?_
              refine JL_split (d0 := 44) rfl (fun q12 => ?_) (fun q12 => ?_)
              · refine JL_skip rfl rfl q12 rfl ?_
                refine JL_skip rfl rfl q12 rfl ?_
                refine JL_skip rfl rfl q12 rfl ?_
                refine JL_skip rfl rfl q12 rfl ?_
                refine JL_pd rfl (det_pick_t rfl q12 rfl) ?_
                exact hj (by kernel_rfl) (stsub_consB rfl (by clear hj; first | rfl | (simp only [q1, q9, q10, q12, Bool.and_true, Bool.true_and, Bool.false_and, Bool.and_false, Bool.or_true, Bool.true_or, Bool.or_false, Bool.false_or, Bool.not_true, Bool.not_false]; done) | (simp [q1, q9, q10, q12]; done) | (simp at q1; done) | (simp at q9; done) | (simp at q10; done) | (simp at q12; done) | (simp [q1, q9, q10, q12] <;> omega) | (exfalso; simp at q1 q9 q10 q12; omega) | (simp [q9, q10, q12] at q1; done) | (simp [q1, q10, q12] at q9; done) | (simp [q1, q9, q12] at q10; done) | (simp [q1, q9, q10] at q12; done)) stsub_nil)
              · refine JL_guard rfl rfl q12 ?_
                refine JL_pd rfl (det_fieldAddr rfl fo_162_3) ?_
                refine JL_guard rfl rfl q12 ?_
                refine JL_dt rfl (det_loadK rfl Tryz.isAgg3 rfl) ?_
                refine JL_guard rfl rfl q12 ?_
                refine JL_step rfl rfl rfl (jo_callv rfl rfl Tryz.call74 rfl (In_j _ _ _)) fun _ => ?_
                refine JL_guard rfl rfl q12 ?_
                refine JL_pd rfl (det_not rfl) ?_
                refine JL_pd rfl (det_pick_f rfl q12 rfl) ?_
                exact hj (by kernel_rfl) (stsub_consB rfl (by clear hj; first | rfl | (simp only [q1, q9, q10, q12, Bool.and_true, Bool.true_and, Bool.false_and, Bool.and_false, Bool.or_true, Bool.true_or, Bool.or_false, Bool.false_or, Bool.not_true, Bool.not_false]; done) | (simp [q1, q9, q10, q12]; done) | (simp at q1; done) | (simp at q9; done) | (simp at q10; done) | (simp at q12; done) | (simp [q1, q9, q10, q12] <;> omega) | (exfalso; simp at q1 q9 q10 q12; omega) | (simp [q9, q10, q12] at q1; done) | (simp [q1, q10, q12] at q9; done) | (simp [q1, q9, q12] at q10; done) | (simp [q1, q9, q10] at q12; done)) stsub_nil)
          · refine JL_guard rfl rfl q9 ?_
            refine JL_pd rfl (det_fieldAddr rfl fo_162_2) ?_
            refine JL_guard rfl rfl q9 ?_
            refine JL_pd rfl (det_fieldAddr rfl fo_160_0) ?_
            refine JL_guard rfl rfl q9 ?_
            refine JL_dt rfl (det_loadK rfl Tryz.isAgg3 rfl) ?_
            refine JL_guard rfl rfl q9 ?_
            refine JL_pd rfl (det_fieldAddr rfl fo_162_2) ?_
            refine JL_guard rfl rfl q9 ?_
            refine JL_pd rfl (det_fieldAddr rfl fo_160_1) ?_
            refine JL_guard rfl rfl q9 ?_
            refine JL_dt rfl (det_loadK rfl Tryz.isAgg3 rfl) ?_
            refine JL_guard rfl rfl q9 ?_
            refine JL_step rfl rfl rfl (jo_callv rfl rfl Tryz.call74 rfl (In_j _ _ _)) fun _ => ?_
            refine JL_guard rfl rfl q9 ?_
            refine JL_pd rfl (det_not rfl) ?_
            refine JL_pd rfl (det_pick_f rfl q9 rfl) ?_
            refine JL_pd rfl (det_move rfl) ?_
            refine JL_split (d0 := 38) rfl (fun q13 => ?_) (fun q13 => ?_)
            · refine JL_skip rfl rfl q13 rfl ?_
              refine JL_skip rfl rfl q13 rfl ?_
              refine JL_skip rfl rfl q13 rfl ?_
              refine JL_skip rfl rfl q13 rfl ?_
              refine JL_pd rfl (det_pick_t rfl q13 rfl) ?_
              refine JL_pd rfl (det_move rfl) ?_
              refine JL_split (d0 := 44) rfl (fun q14 => ?_) (fun q14 => ?_)
              · refine JL_skip rfl rfl q14 rfl ?_
                refine JL_skip rfl rfl q14 rfl ?_
                refine JL_skip rfl rfl q14 rfl ?_
                refine JL_skip rfl rfl q14 rfl ?_
                refine JL_pd rfl (det_pick_t rfl q14 rfl) ?_
                exact hj (by kernel_rfl) (stsub_consB rfl (by clear hj; first | rfl | (simp only [q1, q9, q13, q14, Bool.and_true, Bool.true_and, Bool.false_and, Bool.and_false, Bool.or_true, Bool.true_or, Bool.or_false, Bool.false_or, Bool.not_true, Bool.not_false]; done) | (simp [q1, q9, q13, q14]; done) | (simp at q1; done) | (simp at q9; done) | (simp at q13; done) | (simp at q14; done) | (simp [q1, q9, q13, q14] <;> omega) | (exfalso; simp at q1 q9 q13 q14; omega) | (simp [q9, q13, q14] at q1; done) | (simp [q1, q13, q14] at q9; done) | (simp [q1, q9, q14] at q13; done) | (simp [q1, q9, q13] at q14; done)) stsub_nil)
              · refine JL_guard rfl rfl q14 ?_
                refine JL_pd rfl (det_fieldAddr rfl fo_162_3) ?_
                refine JL_guard rfl rfl q14 ?_
                refine JL_dt rfl (det_loadK rfl Tryz.isAgg3 rfl) ?_
                refine JL_guard rfl rfl q14 ?_
                refine JL_step rfl rfl rfl (jo_callv rfl rfl Tryz.call74 rfl (In_j _ _ _)) fun _ => ?_
                refine JL_guard rfl rfl q14 ?_
                refine JL_pd rfl (det_not rfl) ?_
                refine JL_pd rfl (det_pick_f rfl q14 rfl) ?_
                exact hj (by kernel_rfl) (stsub_consB rfl (by clear hj; first | rfl | (simp only [q1, q9, q13, q14, Bool.and_true, Bool.true_and, Bool.false_and, Bool.and_false, Bool.or_true, Bool.true_or, Bool.or_false, Bool.false_or, Bool.not_true, Bool.not_false]; done) | (simp [q1, q9, q13, q14]; done) | (simp at q1; done) | (simp at q9; done) | (simp at q13; done) | (simp at q14; done) | (simp [q1, q9, q13, q14] <;> omega) | (exfalso; simp at q1 q9 q13 q14; omega) | (simp [q9, q13, q14] at q1; done) | (simp [q1, q13, q14] at q9; done) | (simp [q1, q9, q14] at q13; done) | (simp [q1, q9, q13] at q14; done)) stsub_nil)
            · refine JL_guard rfl rfl q13 ?_
              refine JL_pd rfl (det_fieldAddr rfl fo_162_2) ?_
              refine JL_guard rfl rfl q13 ?_
              refine JL_pd rfl (det_fieldAddr rfl fo_160_1) ?_
              refine JL_guard rfl rfl q13 ?_
              refine JL_dt rfl (det_loadK rfl Tryz.isAgg3 rfl) ?_
              refine JL_guard rfl rfl q13 ?_
              refine JL_pd rfl (det_gtr rfl rfl) ?_
              refine JL_pd rfl (det_pick_f rfl q13 rfl) ?_
              refine JL_pd rfl (det_move rfl) ?_
              refine JL_split (d0 := 44) rfl (fun q15 => ?_) (fun q15 => ?_)
              · refine JL_skip rfl rfl q15 rfl ?_
                refine JL_skip rfl rfl q15 rfl ?_
                refine JL_skip rfl rfl q15 rfl ?_
                refine JL_skip rfl rfl q15 rfl ?_
                refine JL_pd rfl (det_pick_t rfl q15 rfl) ?_
                exact hj (by kernel_rfl) (stsub_consB rfl (by clear hj; first | rfl | (simp only [q1, q9, q13, q15, Bool.and_true, Bool.true_and, Bool.false_and, Bool.and_false, Bool.or_true, Bool.true_or, Bool.or_false, Bool.false_or, Bool.not_true, Bool.not_false]; done) | (simp [q1, q9, q13, q15]; done) | (simp at q1; done) | (simp at q9; done) | (simp at q13; done) | (simp at q15; done) | (simp [q1, q9, q13, q15] <;> omega) | (exfalso; simp at q1 q9 q13 q15; omega) | (simp [q9, q13, q15] at q1; done) | (simp [q1, q13, q15] at q9; done) | (simp [q1, q9, q15] at q13; done) | (simp [q1, q9, q13] at q15; done)) stsub_nil)
              · refine JL_guard rfl rfl q15 ?_
                refine JL_pd rfl (det_fieldAddr rfl fo_162_3) ?_
                refine JL_guard rfl rfl q15 ?_
                refine JL_dt rfl (det_loadK rfl Tryz.isAgg3 rfl) ?_
                refine JL_guard rfl rfl q15 ?_
                refine JL_step rfl rfl rfl (jo_callv rfl rfl Tryz.call74 rfl (In_j _ _ _)) fun _ => ?_
                refine JL_guard rfl rfl q15 ?_
                refine JL_pd rfl (det_not rfl) ?_
                refine JL_pd rfl (det_pick_f rfl q15 rfl) ?_
                exact hj (by kernel_rfl) (stsub_consB rfl (by clear hj; first | rfl | (simp only [q1, q9, q13, q15, Bool.and_true, Bool.true_and, Bool.false_and, Bool.and_false, Bool.or_true, Bool.true_or, Bool.or_false, Bool.false_or, Bool.not_true, Bool.not_false]; done) | (simp [q1, q9, q13, q15]; done) | (simp at q1; done) | (simp at q9; done) | (simp at q13; done) | (simp at q15; done) | (simp [q1, q9, q13, q15] <;> omega) | (exfalso; simp at q1 q9 q13 q15; omega) | (simp [q9, q13, q15] at q1; done) | (simp [q1, q13, q15] at q9; done) | (simp [q1, q9, q15] at q13; done) | (simp [q1, q9, q13] at q15; done)) stsub_nil)
      refine JL_nil ?_
      refine JE_seq ?_
      -- stop: cond
      rw [heq]
      refine JC_cond rfl (fun h2 => ?_) (fun h2 => ?_)
      · simp only [Bool.not_eq_true'] at h2
        refine JC_seq ?_
        refine JC_region ?_
        refine JL_pd rfl (det_assign rfl) ?_
        refine JL_nil ?_
        refine JE_seq ?_
        refine JC_ret ?_
        refine JE_block_ret ?_
        refine JE_seq_ret ?_
        refine JE_then_ret ?_
        refine JE_block_ret ?_
        refine JE_seq_ret ?_
        -- stop: out
        refine JE_out (.inl rfl) () (results1 Tryz.results29 (res_tmp rfl)) (by unfold tarE; rw [if_neg (by omega), if_pos (all_no hi2 h2)]) (List.Perm.refl _) (fun _ _ => trivial)
      · simp only [Bool.not_eq_false'] at h2
        refine JC_skip ?_
        refine JE_block ?_
        refine JE_seq ?_
        refine JC_region ?_
        refine JL_pd rfl (det_move rfl) ?_
        refine JL_pd rfl (det_add rfl rfl ⟨by omega, by omega⟩) ?_
        refine JL_pd rfl (det_assign rfl) ?_
        refine JL_nil ?_
        -- stop: end
        refine JE_roundF hK (i + 1) ⟨by omega, all_snoc hi2 ha h2⟩ (by omega) (stsub_consI rfl (by omega) stsub_nil) ht_nil
    · obtain rfl : i = ls.length := by omega
      rw [List.take_length] at ha
      refine JC_exit ?_
      refine JE_seq_exit ?_
      refine JE_then_exit ?_
      refine JE_block_here ?_
      refine JE_seq ?_
      refine JC_seq ?_
      refine JC_region ?_
      refine JL_pd rfl (det_assign rfl) ?_
      refine JL_nil ?_
      refine JE_seq ?_
      refine JC_ret ?_
      -- stop: out
      refine JE_out (.inl rfl) () (results1 Tryz.results29 (res_tmp rfl)) (by unfold tarE; rw [if_neg (by omega), if_neg (by rw [ha]; decide)]) (List.Perm.refl _) (fun _ _ => trivial)
end Go.Proofs.YthpkgabckklojaaGreat.Bl

/- Walks of the reference of bill: the best purchase. -/
namespace Go.Proofs.YthpkgabckklojaaGreat.Bl
open Go.RowKit Go.Shelf

/-- The best purchase that begins so. -/
def rb (at_ : Int) (l : List Of) (need : Am) : Nat → List Int → Option Bt
  | 0, p => if alP at_ l p = true ∧ leA need (hvP l p) = true then some (btP l p) else none
  | k + 1, p => pickB (fun n => rb at_ l need k (p ++ [(n : Int)])) ((l.getD p.length default).most.toNat + 1)
theorem rb_sound {at_ : Int} {l : List Of} {need : Am} : ∀ (k : Nat) (p : List Int) (b : Bt), rb at_ l need k p = some b → alP at_ l b.list = true ∧ leA need (hvP l b.list) = true ∧ b = btP l b.list
  | 0, p, b, h => by
    unfold rb at h
    split at h
    · rename_i e; cases h; exact ⟨e.1, e.2, rfl⟩
    · cases h
  | k + 1, p, b, h => by
    unfold rb at h
    obtain ⟨i, _, e⟩ := pickB_mem h
    exact rb_sound k _ b e
theorem rb_complete {at_ : Int} {l : List Of} {need : Am} (hV : ∀ o ∈ l, VOf o) : ∀ (k : Nat) (p q : List Int), p.length + k = l.length → p <+: q → alP at_ l q = true → leA need (hvP l q) = true → ∃ b, rb at_ l need k p = some b ∧ ¬ befV (btP l q) b < 0
  | 0, p, q, hk, hp, h1, h2 => by
    have hl := alP_len h1
    have : p = q := List.IsPrefix.eq_of_length hp (by omega)
    subst this
    unfold rb
    rw [if_pos ⟨h1, h2⟩]
    exact ⟨_, rfl, befV_irrefl _⟩
  | k + 1, p, q, hk, hp, h1, h2 => by
    have hl := alP_len h1
    obtain ⟨r, rfl⟩ := hp
    rw [List.length_append] at hl
    obtain ⟨x, r, rfl⟩ : ∃ x r', r = x :: r' := by
      cases r with
      | nil => simp at hl; omega
      | cons x r => exact ⟨x, r, rfl⟩
    have hpl : p.length < l.length := by omega
    have hx := alP_get h1 p.length hpl (by rw [List.length_append, List.length_cons]; omega)
    rw [List.getElem_append_right (by omega)] at hx
    simp only [Nat.sub_self, List.getElem_cons_zero] at hx
    have hx := inI_iff.1 hx
    have hv := hV _ (List.getElem_mem hpl)
    have hm : mostV l[p.length] at_ ≤ l[p.length].most := by have := hv.m0; unfold mostV; split <;> omega
    obtain ⟨n, rfl⟩ : ∃ n : Nat, x = n := ⟨x.toNat, by omega⟩
    obtain ⟨b, e1, e2⟩ := rb_complete hV k (p ++ [(n : Int)]) (p ++ (n : Int) :: r) (by rw [List.length_append]; simp only [List.length_cons, List.length_nil]; omega) ⟨r, by simp⟩ h1 h2
    obtain ⟨c, e3, e4⟩ := pickB_min (f := fun n => rb at_ l need k (p ++ [(n : Int)])) (n := (l.getD p.length default).most.toNat + 1) (i := n) (b := b) (by rw [List.getD_eq_getElem?_getD, List.getElem?_eq_getElem hpl]; simp only [Option.getD_some]; omega) e1
    exact ⟨c, by unfold rb; exact e3, befV_cmp e2 e4⟩
theorem rb_bst {at_ : Int} {l : List Of} {need : Am} (hV : ∀ o ∈ l, VOf o) (hn : am12 need) : rb at_ l need l.length [] = bst at_ l need := by
  cases h : rb at_ l need l.length [] with
  | some b =>
    obtain ⟨h1, h2, h3⟩ := rb_sound _ _ _ h
    obtain ⟨c, e1, e2⟩ := bst_complete at_ l need b.list hV hn h1 h2
    obtain ⟨s1, s2, s3⟩ := bst_sound at_ l need c hV hn e1
    obtain ⟨d, f1, f2⟩ := rb_complete (need := need) hV l.length [] c.list (by simp) (List.nil_prefix) s1 s2
    rw [h] at f1
    obtain rfl : b = d := by simpa using f1
    rw [← h3] at e2
    rw [← s3] at f2
    rw [e1, befV_total f2 e2]
  | none =>
    cases hb : bst at_ l need with
    | none => rfl
    | some c =>
      obtain ⟨s1, s2, s3⟩ := bst_sound at_ l need c hV hn hb
      obtain ⟨d, f1, f2⟩ := rb_complete (need := need) hV l.length [] c.list (by simp) (List.nil_prefix) s1 s2
      rw [h] at f1; cases f1
def betB (l : List Of) (p q : List Int) : Bool := decide (befV (btP l p) (btP l q) < 0)
theorem alP_12 {at_ : Int} {l : List Of} {p : List Int} (hV : ∀ o ∈ l, VOf o) (h : alP at_ l p = true) : ∀ x ∈ p, 0 ≤ x ∧ x ≤ 12 := fun x hx => by
  obtain ⟨i, hi, rfl⟩ := List.mem_iff_getElem.1 hx
  have hl := alP_len h
  have h1 := inI_iff.1 (alP_get h i (by omega) hi)
  have h2 := most_bd (hV _ (List.getElem_mem (show i < l.length by omega))) at_
  omega
end Go.Proofs.YthpkgabckklojaaGreat.Bl

/- Walks of the reference of bill: the best purchase of all. -/
namespace Go.Proofs.YthpkgabckklojaaGreat.Bl
open Go.RowKit Go.Shelf

abbrev Loc := Option Addr × Nat × Nat
def KBt (r : Option Bt) (q : Loc) : World → Prop := fun w => ∀ b, r = some b → q.2.1 = b.list.length ∧ KSl q.1 b.list.length q.2.2 encI b.list w
theorem pickB_no {f : Nat → Option Bt} {n : Nat} (h : f n = none) : pickB f (n + 1) = pickB f n := pickB_none h
end Go.Proofs.YthpkgabckklojaaGreat.Bl

/- Walks of bill: ProvePurchase. -/
namespace Go.Proofs.YthpkgabckklojaaGreat.Bl
open Go.RowKit Go.Shelf

/-- What of an amount some purchase leaves. -/
def remP (need H : Am) : Am := ⟨max 0 (need.g - H.g), max 0 (need.q - H.q), max 0 (need.s - H.s)⟩
theorem rem12 {need H : Am} (hn : am12 need) (h : 0 ≤ H.g ∧ 0 ≤ H.q ∧ 0 ≤ H.s) : am12 (remP need H) := by
  unfold am12 remP at *
  simp only
  omega
theorem rem_0 {need H : Am} : decide (remP need H = ⟨0, 0, 0⟩) = leA need H := by
  unfold leA remP
  refine decide_eq_decide.2 ⟨fun h => ?_, fun h => ?_⟩
  · have h1 := congrArg Am.g h
    have h2 := congrArg Am.q h
    have h3 := congrArg Am.s h
    simp only at h1 h2 h3
    omega
  · congr 1 <;> omega
theorem rem_wos {need H a : Am} (hn : am12 need) (h : 0 ≤ H.g ∧ 0 ≤ H.q ∧ 0 ≤ H.s) (ha : VAm a) (n : Nat) (hg : 0 ≤ (n : Int) * a.g ∧ 0 ≤ (n : Int) * a.q ∧ 0 ≤ (n : Int) * a.s) : wos (remP need H) a n = remP need ⟨H.g + n * a.g, H.q + n * a.q, H.s + n * a.s⟩ := by
  rw [wos_eq (rem12 hn h) ha]
  unfold remP
  simp only
  congr 1 <;> omega
def provB (l : List Of) (need : Am) (at_ : Int) (p : List Int) (cost : Int) : Bool := decide (askE l need at_ = 0) && (alP at_ l p && (leA need (hvP l p) && decide (coP l p ≤ cost)))
end Go.Proofs.YthpkgabckklojaaGreat.Bl

/- Walks of the laws of bill: few purchases; Best in one contract. -/
namespace Go.Proofs.YthpkgabckklojaaGreat.Bl
open Go.RowKit Go.Shelf

def prodM (l : List Of) : Int := l.foldl (fun n o => n * (o.most + 1)) 1
theorem prod_go : ∀ (l : List Of) (n : Int) (k : Nat), (∀ o ∈ l, VOf o) → 1 ≤ n → n ≤ 13 ^ k → 1 ≤ l.foldl (fun n o => n * (o.most + 1)) n ∧ l.foldl (fun n o => n * (o.most + 1)) n ≤ 13 ^ (k + l.length)
  | [], n, k, _, h1, h2 => ⟨h1, h2⟩
  | o :: l, n, k, hV, h1, h2 => by
    have ho := hV o (List.mem_cons_self ..)
    have m0 := ho.m0
    have m1 := ho.m1
    have e1 : n * 1 ≤ n * (o.most + 1) := Int.mul_le_mul_of_nonneg_left (by omega) (by omega)
    have e2 : n * (o.most + 1) ≤ 13 ^ k * 13 := Int.mul_le_mul h2 (by omega) (by omega) (by omega)
    have := prod_go l (n * (o.most + 1)) (k + 1) (fun x hx => hV x (List.mem_cons_of_mem _ hx)) (by omega) (by rw [Int.pow_succ]; exact e2)
    rw [List.foldl_cons, List.length_cons, show k + (l.length + 1) = k + 1 + l.length from by omega]
    exact this
theorem prod_bd {l : List Of} (hV : ∀ o ∈ l, VOf o) (hl : l.length ≤ 6) : 1 ≤ prodM l ∧ prodM l ≤ 4826809 := by
  have h := prod_go l 1 0 hV (by omega) (by simp)
  refine ⟨h.1, Int.le_trans h.2 ?_⟩
  rw [Nat.zero_add]
  have : ∀ n : Nat, n ≤ 6 → (13 : Int) ^ n ≤ 4826809 := by decide
  exact this _ hl
def fewB (l : List Of) : Bool := if tarE l ≠ 0 then true else decide (prodM l ≤ 5000)
/-- The best purchase of any tariff, amount and hour. -/
def bR (l : List Of) (need : Am) (at_ : Int) : Option Bt := if askE l need at_ = 0 then bst at_ l need else none
def bErr (l : List Of) (need : Am) (at_ : Int) : Int := if askE l need at_ ≠ 0 then askE l need at_ else if (bst at_ l need).isSome = true then 0 else 9
def bCost (r : Option Bt) : Int := match r with | some b => b.cost | none => 0
def bList (r : Option Bt) : List Int := match r with | some b => b.list | none => []
theorem Best_u (a : Option Addr) (c : Nat) (l : List Of) (need : Am) (at_ : Int) : Cr Tryz.prog 36 [.slice a l.length c, .agg #[I need.g, I need.q, I need.s], I at_] (KSl a l.length c encO l) (fun q : Option Addr × Nat => .tuple #[.slice q.1 (bList (bR l need at_)).length q.2, I (bCost (bR l need at_)), I (bErr l need at_)]) (fun q => KSl q.1 (bList (bR l need at_)).length q.2 encI (bList (bR l need at_))) := by
  unfold bR bErr
  by_cases hE : askE l need at_ = 0
  · rw [if_pos hE, if_neg (fun h => h hE)]
    have h := Best_jo a c l need at_ hE
    cases hb : bst at_ l need with
    | none =>
      rw [hb] at h
      exact Cv.cr (Cr.toCv h fun _ => rfl) (none, 0) rfl KSl_none
    | some b =>
      rw [hb] at h
      exact h
  · rw [if_neg hE, if_pos hE]
    exact Cv.cr (Best_je a c l need at_ hE) (none, 0) rfl KSl_none
end Go.Proofs.YthpkgabckklojaaGreat.Bl

/- The statements about bill: BillBests. -/
namespace Go.Proofs.YthpkgabckklojaaGreat.Bl
open Go.RowKit Go.Shelf

theorem bR_ok {ls : List Of} {need : Am} {at_ : Int} (h : askE ls need at_ = 0) {b : Bt} (hb : bst at_ ls need = some b) : bR ls need at_ = some b ∧ bErr ls need at_ = 0 := by
  unfold bR bErr
  rw [if_pos h, if_neg (fun e => e h), hb]
  exact ⟨rfl, rfl⟩
theorem bR_none {ls : List Of} {need : Am} {at_ : Int} (h : askE ls need at_ = 0) (hb : bst at_ ls need = none) : bR ls need at_ = none ∧ bErr ls need at_ = 9 := by
  unfold bR bErr
  rw [if_pos h, if_neg (fun e => e h), hb]
  exact ⟨rfl, rfl⟩
theorem bR_bad {ls : List Of} {need : Am} {at_ : Int} (h : askE ls need at_ ≠ 0) : bR ls need at_ = none ∧ bErr ls need at_ = askE ls need at_ := by
  unfold bR bErr
  rw [if_neg h, if_pos h]
  exact ⟨rfl, rfl⟩
end Go.Proofs.YthpkgabckklojaaGreat.Bl

/- The statements about bill: BillCheapest. -/
namespace Go.Proofs.YthpkgabckklojaaGreat.Bl
open Go.RowKit Go.Shelf

def readyB (ls : List Of) (need : Am) (at_ : Int) : Bool := decide (ls.length ≤ 9) && decide (askE ls need at_ = 0)
theorem prov_none {ls : List Of} {need : Am} {at_ : Int} (hV : ∀ o ∈ ls, VOf o) (hn : am12 need) (h : bst at_ ls need = none) (p : List Int) (cost : Int) : provB ls need at_ p cost = false := by
  cases hp : provB ls need at_ p cost with
  | false => rfl
  | true =>
    unfold provB at hp
    simp only [Bool.and_eq_true] at hp
    obtain ⟨b, e, _⟩ := bst_complete at_ ls need p hV hn hp.2.1 hp.2.2.1
    rw [h] at e; cases e
theorem prov_self {ls : List Of} {need : Am} {at_ : Int} (hV : ∀ o ∈ ls, VOf o) (hn : am12 need) (hE : askE ls need at_ = 0) {b : Bt} (h : bst at_ ls need = some b) : provB ls need at_ b.list b.cost = true := by
  obtain ⟨s1, s2, s3⟩ := bst_sound at_ ls need b hV hn h
  have hc : b.cost = coP ls b.list := congrArg Bt.cost s3
  unfold provB
  rw [decide_eq_true hE, s1, s2, decide_eq_true (by omega)]; rfl
theorem prov_best {ls : List Of} {need : Am} {at_ : Int} (hV : ∀ o ∈ ls, VOf o) (hn : am12 need) {b : Bt} (h : bst at_ ls need = some b) {p : List Int} {cost : Int} (hp : provB ls need at_ p cost = true) : alP at_ ls p = true ∧ b.cost ≤ coP ls p ∧ coP ls p ≤ cost ∧ ¬ befV (btP ls p) b < 0 := by
  unfold provB at hp
  simp only [Bool.and_eq_true, decide_eq_true_eq] at hp
  obtain ⟨c, e, h2⟩ := bst_complete at_ ls need p hV hn hp.2.1 hp.2.2.1
  rw [h] at e
  obtain rfl : b = c := by simpa using e
  refine ⟨hp.2.1, ?_, hp.2.2.2, h2⟩
  rw [befV_iff] at h2
  simp only [btP] at h2
  omega
end Go.Proofs.YthpkgabckklojaaGreat.Bl

/- Bill, plain: what makes the best purchase no dearer. -/
namespace Go.Proofs.YthpkgabckklojaaGreat.Bl
open Go.RowKit Go.Shelf

theorem leA_iff {a b : Am} : leA a b = true ↔ a.g ≤ b.g ∧ a.q ≤ b.q ∧ a.s ≤ b.s := by unfold leA; exact decide_eq_true_iff
/-- If some purchase is allowed and covers, the best one is there, and no dearer. -/
theorem bst_le {at_ : Int} {l : List Of} {need : Am} {p : List Int} (hV : ∀ o ∈ l, VOf o) (hn : am12 need) (h1 : alP at_ l p = true) (h2 : leA need (hvP l p) = true) : ∃ b, bst at_ l need = some b ∧ b.cost ≤ coP l p := by
  obtain ⟨b, e, h⟩ := bst_complete at_ l need p hV hn h1 h2
  refine ⟨b, e, ?_⟩
  rw [befV_iff] at h
  simp only [btP] at h
  omega
theorem less_le {at_ : Int} {l : List Of} {need less : Am} {b : Bt} (hV : ∀ o ∈ l, VOf o) (hn : am12 need) (hl : am12 less) (h : leA less need = true) (hb : bst at_ l need = some b) : ∃ c, bst at_ l less = some c ∧ c.cost ≤ b.cost := by
  obtain ⟨s1, s2, s3⟩ := bst_sound at_ l need b hV hn hb
  have hc : b.cost = coP l b.list := congrArg Bt.cost s3
  rw [hc]
  refine bst_le hV hl s1 (leA_iff.2 ?_)
  have q1 := leA_iff.1 h
  have q2 := leA_iff.1 s2
  omega
def full1 (o : Of) : Of := ⟨o.price, o.am, o.lo, o.hi, 12⟩
def full (l : List Of) : List Of := l.map full1
theorem full_V {l : List Of} (hV : ∀ o ∈ l, VOf o) : ∀ o ∈ full l, VOf o := fun o h => by
  obtain ⟨x, hx, rfl⟩ := List.mem_map.1 h
  have v := hV x hx
  exact ⟨v.p0, v.p1, v.am, v.l0, v.lh, v.h1, by simp [full1], by simp [full1]⟩
theorem full_hv : ∀ (l : List Of) (p : List Int), hvP (full l) p = hvP l p ∧ coP (full l) p = coP l p
  | [], _ => ⟨rfl, rfl⟩
  | _ :: _, [] => ⟨rfl, rfl⟩
  | o :: os, n :: ns => by
    obtain ⟨h1, h2⟩ := full_hv os ns
    unfold full at *
    rw [List.map_cons, hvP, hvP, coP, coP, h1, h2]
    exact ⟨rfl, rfl⟩
theorem full_al {at_ : Int} : ∀ {l : List Of} {p : List Int}, (∀ o ∈ l, VOf o) → alP at_ l p = true → alP at_ (full l) p = true
  | [], [], _, _ => rfl
  | [], _ :: _, _, h => by cases h
  | _ :: _, [], _, h => by cases h
  | o :: os, n :: ns, hV, h => by
    have v := hV o (List.mem_cons_self ..)
    unfold alP at h
    rw [Bool.and_eq_true, inI_iff] at h
    have ih := full_al (fun x hx => hV x (List.mem_cons_of_mem _ hx)) h.2
    have hm : mostV o at_ ≤ mostV (full1 o) at_ := by
      have := v.m1
      unfold mostV full1
      simp only
      split <;> omega
    show (inI n 0 (mostV (full1 o) at_) && alP at_ (full os) ns) = true
    rw [ih, inI_iff.2 ⟨h.1.1, by omega⟩]; rfl
theorem full_le {at_ : Int} {l : List Of} {need : Am} {b : Bt} (hV : ∀ o ∈ l, VOf o) (hn : am12 need) (hb : bst at_ l need = some b) : ∃ c, bst at_ (full l) need = some c ∧ c.cost ≤ b.cost := by
  obtain ⟨s1, s2, s3⟩ := bst_sound at_ l need b hV hn hb
  have hc : b.cost = coP l b.list := congrArg Bt.cost s3
  obtain ⟨f1, f2⟩ := full_hv l b.list
  rw [hc, ← f2]
  exact bst_le (full_V hV) hn (full_al hV s1) (by rw [f1]; exact s2)
theorem more_le {at_ : Int} {l : List Of} {o : Of} {need : Am} {b : Bt} (hV : ∀ x ∈ l, VOf x) (ho : VOf o) (hn : am12 need) (hb : bst at_ l need = some b) : ∃ c, bst at_ (l ++ [o]) need = some c ∧ c.cost ≤ b.cost := by
  obtain ⟨s1, s2, s3⟩ := bst_sound at_ l need b hV hn hb
  have hl := alP_len s1
  have hc : b.cost = coP l b.list + 0 * o.price := by rw [Int.zero_mul, Int.add_zero]; exact congrArg Bt.cost s3
  rw [← coP_app _ _ _ _ hl.symm] at hc
  rw [hc]
  refine bst_le (fun x hx => ?_) hn ?_ ?_
  · rcases List.mem_append.1 hx with hx | hx
    · exact hV x hx
    · rw [List.mem_singleton.1 hx]; exact ho
  · rw [alP_app _ _ _ _ _ hl.symm, s1, inI_iff.2 ⟨Int.le_refl _, (most_bd ho at_).1⟩]; rfl
  · rw [hvP_app _ _ _ _ hl.symm, Int.zero_mul, Int.zero_mul, Int.zero_mul, Int.add_zero, Int.add_zero, Int.add_zero]
    exact s2
/-- Two purchases together, each offer at most 12 times. -/
def bothP : List Int → List Int → List Int
  | x :: xs, y :: ys => min 12 (x + y) :: bothP xs ys
  | _, _ => []
theorem comp_step {nx mx kx H1 H2 H : Int} (h0 : 0 ≤ kx) (h : kx = nx + mx ∨ (nx = 0 ∧ mx = 0) ∨ 12 ≤ kx) (a1 : 0 ≤ H1) (a2 : 0 ≤ H2) (i : min 12 (H1 + H2) ≤ H) : min 12 (nx + H1 + (mx + H2)) ≤ kx + H := by
  omega
theorem both_ok {at_ : Int} : ∀ {l : List Of} {p q : List Int}, (∀ o ∈ l, VOf o) → alP at_ (full l) p = true → alP at_ (full l) q = true →
    alP at_ (full l) (bothP p q) = true ∧ coP l (bothP p q) ≤ coP l p + coP l q ∧ min 12 ((hvP l p).g + (hvP l q).g) ≤ (hvP l (bothP p q)).g ∧ min 12 ((hvP l p).q + (hvP l q).q) ≤ (hvP l (bothP p q)).q ∧ min 12 ((hvP l p).s + (hvP l q).s) ≤ (hvP l (bothP p q)).s
  | [], [], [], _, _, _ => by refine ⟨rfl, ?_, ?_, ?_, ?_⟩ <;> simp only [bothP, coP, hvP] <;> omega
  | [], _ :: _, _, _, h, _ => by cases h
  | [], [], _ :: _, _, _, h => by cases h
  | _ :: _, [], _, _, h, _ => by cases h
  | _ :: _, _ :: _, [], _, _, h => by cases h
  | o :: os, n :: ns, m :: ms, hV, h1, h2 => by
    have v := hV o (List.mem_cons_self ..)
    have hV' : ∀ x ∈ os, VOf x := fun x hx => hV x (List.mem_cons_of_mem _ hx)
    have h1' : (inI n 0 (mostV (full1 o) at_) && alP at_ (full os) ns) = true := h1
    have h2' : (inI m 0 (mostV (full1 o) at_) && alP at_ (full os) ms) = true := h2
    rw [Bool.and_eq_true, inI_iff] at h1' h2'
    obtain ⟨i1, i2, i3, i4, i5⟩ := both_ok hV' h1'.2 h2'.2
    have p1 := v.p0
    have g0 := v.am.g0
    have q0 := v.am.q0
    have s0 := v.am.s0
    have hk : ∃ k : Int, k = min 12 (n + m) := ⟨_, rfl⟩
    obtain ⟨k, hk⟩ := hk
    have hmul : ∀ x : Int, 0 ≤ x → 0 ≤ k * x ∧ k * x ≤ n * x + m * x ∧ (k * x = n * x + m * x ∨ (n * x = 0 ∧ m * x = 0) ∨ 12 ≤ k * x) := fun x hx => by
      have e : n * x + m * x = (n + m) * x := (Int.add_mul ..).symm
      have a1 : 0 ≤ k * x := Int.mul_nonneg (by omega) hx
      have a2 : k * x ≤ (n + m) * x := Int.mul_le_mul_of_nonneg_right (by omega) hx
      refine ⟨a1, by omega, ?_⟩
      by_cases h12 : n + m ≤ 12
      · left
        rw [e, show k = n + m by omega]
      · right
        by_cases hx0 : x = 0
        · subst hx0; left; simp
        · right
          have : 12 * 1 ≤ k * x := Int.mul_le_mul (by omega) (by omega) (by omega) (by omega)
          omega
    have m1 := hmul o.price p1
    have m2 := hmul o.am.g g0
    have m3 := hmul o.am.q q0
    have m4 := hmul o.am.s s0
    have hz1 := hvP_0 (at_ := at_) (full_V hV') h1'.2
    have hz2 := hvP_0 (at_ := at_) (full_V hV') h2'.2
    rw [(full_hv os ns).1] at hz1
    rw [(full_hv os ms).1] at hz2
    have hmx : mostV (full1 o) at_ ≤ 12 ∧ (mostV (full1 o) at_ = 0 ∨ mostV (full1 o) at_ = 12) := by
      unfold mostV full1
      simp only
      split <;> omega
    refine ⟨?_, ?_, ?_, ?_, ?_⟩
    · show (inI (min 12 (n + m)) 0 (mostV (full1 o) at_) && alP at_ (full os) (bothP ns ms)) = true
      rw [i1, inI_iff.2 ⟨by omega, by omega⟩]; rfl
    · show min 12 (n + m) * o.price + coP os (bothP ns ms) ≤ n * o.price + coP os ns + (m * o.price + coP os ms)
      rw [← hk]; omega
    · show min 12 (n * o.am.g + (hvP os ns).g + (m * o.am.g + (hvP os ms).g)) ≤ min 12 (n + m) * o.am.g + (hvP os (bothP ns ms)).g
      rw [← hk]; exact comp_step m2.1 m2.2.2 hz1.1 hz2.1 i3
    · show min 12 (n * o.am.q + (hvP os ns).q + (m * o.am.q + (hvP os ms).q)) ≤ min 12 (n + m) * o.am.q + (hvP os (bothP ns ms)).q
      rw [← hk]; exact comp_step m3.1 m3.2.2 hz1.2.1 hz2.2.1 i4
    · show min 12 (n * o.am.s + (hvP os ns).s + (m * o.am.s + (hvP os ms).s)) ≤ min 12 (n + m) * o.am.s + (hvP os (bothP ns ms)).s
      rw [← hk]; exact comp_step m4.1 m4.2.2 hz1.2.2.1 hz2.2.2.1 i5
theorem both_le {at_ : Int} {l : List Of} {need other both : Am} {b c : Bt} (hV : ∀ o ∈ l, VOf o) (hn : am12 need) (ho : am12 other) (hbo : am12 both) (he : both = ⟨need.g + other.g, need.q + other.q, need.s + other.s⟩) (hb : bst at_ (full l) need = some b) (hc : bst at_ (full l) other = some c) : ∃ d, bst at_ (full l) both = some d ∧ d.cost ≤ b.cost + c.cost := by
  obtain ⟨s1, s2, s3⟩ := bst_sound at_ (full l) need b (full_V hV) hn hb
  obtain ⟨t1, t2, t3⟩ := bst_sound at_ (full l) other c (full_V hV) ho hc
  have e1 : b.cost = coP l b.list := by rw [congrArg Bt.cost s3]; exact (full_hv l b.list).2
  have e2 : c.cost = coP l c.list := by rw [congrArg Bt.cost t3]; exact (full_hv l c.list).2
  obtain ⟨o1, o2, o3, o4, o5⟩ := both_ok hV s1 t1
  rw [(full_hv l b.list).1] at s2
  rw [(full_hv l c.list).1] at t2
  have s2 := leA_iff.1 s2
  have t2 := leA_iff.1 t2
  have hcov : leA both (hvP (full l) (bothP b.list c.list)) = true := by
    rw [(full_hv l _).1]
    unfold am12 at hbo
    refine leA_iff.2 ?_
    subst he
    simp only at hbo ⊢
    omega
  obtain ⟨d, f1, f2⟩ := bst_le (full_V hV) hbo o1 hcov
  rw [(full_hv l _).2] at f2
  exact ⟨d, f1, by omega⟩
theorem full_tar {l : List Of} (h : tarE l = 0) : tarE (full l) = 0 := by
  obtain ⟨h1, hV⟩ := tar_of h
  unfold tarE
  rw [if_neg (by unfold full; rw [List.length_map]; omega), if_neg]
  rw [List.all_eq_true.2 fun o ho => ofOk_iff.2 (full_V hV o ho)]
  decide
theorem ask_ok {l : List Of} {need : Am} {at_ : Int} (h : tarE l = 0) (hn : VAm need) (h1 : 0 ≤ at_) (h2 : at_ ≤ 23) : askE l need at_ = 0 := by
  unfold askE
  rw [if_neg (fun e => e h), if_neg]
  rw [amOk_iff.2 hn, inI_iff.2 ⟨h1, h2⟩]
  decide
theorem VAm_of {a : Am} (h : am12 a) : VAm a := ⟨h.1, h.2.1, h.2.2.1, h.2.2.2.1, h.2.2.2.2.1, h.2.2.2.2.2⟩
/-- What Best answers where what is asked is valid. -/
theorem bErr_cases {l : List Of} {need : Am} {at_ : Int} (h : askE l need at_ = 0) : (bErr l need at_ = 9 ∧ bst at_ l need = none) ∨ ∃ b, bst at_ l need = some b ∧ bErr l need at_ = 0 ∧ bCost (bR l need at_) = b.cost := by
  cases hb : bst at_ l need with
  | none => exact .inl ⟨(bR_none h hb).2, rfl⟩
  | some b => obtain ⟨e1, e2⟩ := bR_ok h hb; exact .inr ⟨b, rfl, e2, by rw [e1]; rfl⟩
end Go.Proofs.YthpkgabckklojaaGreat.Bl
