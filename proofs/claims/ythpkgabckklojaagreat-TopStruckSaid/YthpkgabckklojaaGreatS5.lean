/- Own texts, laid together: K1 K2 K3. Nothing is asked. -/
import Derived.Test.YthpkgabckklojaaGreatJF
import Derived.Test.YthpkgabckklojaaGreatS3
import Derived.Test.YthpkgabckklojaaGreatS4
set_option linter.unusedSimpArgs false
set_option linter.unusedVariables false
/- Rack: sets of pins as bits; steps of a walk with them. Nothing is asked. -/
namespace Go.Proofs.YthpkgabckklojaaGreat.Rk
open Go.RowKit Go.Shelf

abbrev BS := BitVec 16
abbrev bv (s : BS) : Value := .int .u16 (s.toNat : Int)
theorem ofi (s : BS) : BitVec.ofInt 16 (s.toNat : Int) = s := by
  apply BitVec.eq_of_toNat_eq
  have := s.isLt
  rw [BitVec.toNat_ofInt]
  omega
theorem wrap16 {n : Int} (h : 0 ≤ n ∧ n ≤ 65535) : IntKind.u16.wrap n = n := by
  simp [IntKind.wrap, IntKind.bits, IntKind.signed]; omega
theorem wrapS (s : BS) : IntKind.u16.wrap (s.toNat : Int) = (s.toNat : Int) := wrap16 (by have := s.isLt; omega)
section
variable {P : Program} {st : Sto} {d : Option Nat} {ty : TypeId} {pos : String} {af : Array Edge} {g : Option (Nat × Bool)}
theorem det_orR {x y : Operand} {t t' : TypeId} {m n : Int} {k : IntKind} (r : Int) (hx : opnd st x = some (.int k m)) (hy : opnd st y = some (.int k n)) (h : k.wrap ((BitVec.ofInt k.bits m ||| BitVec.ofInt k.bits n).toNat : Int) = r) : PDet P ⟨d, .binOp .or t x y t', ty, pos, af, g⟩ st (.int k r) := fun N a w hs => by
  subst h
  simp [execOp, hs.eval hx, hs.eval hy, eqGuard, binOp, Op.intBits]
theorem det_anR {x y : Operand} {t t' : TypeId} {m n : Int} {k : IntKind} (r : Int) (hx : opnd st x = some (.int k m)) (hy : opnd st y = some (.int k n)) (h : k.wrap ((BitVec.ofInt k.bits m &&& ~~~ BitVec.ofInt k.bits n).toNat : Int) = r) : PDet P ⟨d, .binOp .andNot t x y t', ty, pos, af, g⟩ st (.int k r) := fun N a w hs => by
  subst h
  simp [execOp, hs.eval hx, hs.eval hy, eqGuard, binOp, Op.intBits]
theorem det_shlR {x y : Operand} {t t' : TypeId} {m j : Int} {k q : IntKind} (r : Int) (hx : opnd st x = some (.int k m)) (hy : opnd st y = some (.int q j)) (hj : 0 ≤ j) (h : k.wrap (m * 2 ^ min j.toNat k.bits) = r) : PDet P ⟨d, .binOp .shl t x y t', ty, pos, af, g⟩ st (.int k r) := fun N a w hs => by
  subst h
  have h2 : ¬ j < 0 := by omega
  simp [execOp, hs.eval hx, hs.eval hy, eqGuard, binOp, Op.shift, h2]
theorem det_orS {x y : Operand} {t t' : TypeId} (s u : BS) (hx : opnd st x = some (bv s)) (hy : opnd st y = some (bv u)) : PDet P ⟨d, .binOp .or t x y t', ty, pos, af, g⟩ st (bv (s ||| u)) :=
  det_orR _ hx hy (by rw [show IntKind.u16.bits = 16 from rfl, ofi, ofi]; exact wrapS _)
theorem det_andS {x y : Operand} {t t' : TypeId} (s u : BS) (hx : opnd st x = some (bv s)) (hy : opnd st y = some (bv u)) : PDet P ⟨d, .binOp .and t x y t', ty, pos, af, g⟩ st (bv (s &&& u)) :=
  det_andR _ hx hy (by rw [show IntKind.u16.bits = 16 from rfl, ofi, ofi]; exact wrapS _)
theorem det_anS {x y : Operand} {t t' : TypeId} (s u : BS) (hx : opnd st x = some (bv s)) (hy : opnd st y = some (bv u)) : PDet P ⟨d, .binOp .andNot t x y t', ty, pos, af, g⟩ st (bv (s &&& ~~~ u)) :=
  det_anR _ hx hy (by rw [show IntKind.u16.bits = 16 from rfl, ofi, ofi]; exact wrapS _)
theorem det_shlS {x y : Operand} {t t' : TypeId} {j : Int} {q : IntKind} (i : Nat) (hx : opnd st x = some (.int .u16 1)) (hy : opnd st y = some (.int q j)) (hj : j = (i : Int)) (hi : i < 16) : PDet P ⟨d, .binOp .shl t x y t', ty, pos, af, g⟩ st (bv (BitVec.twoPow 16 i)) :=
  det_shlR _ hx hy (by omega) (by
    subst hj
    have hm : min (i : Int).toNat 16 = i := by rw [Int.toNat_natCast]; omega
    have hp : 2 ^ i < 2 ^ 16 := Nat.pow_lt_pow_right (by decide) hi
    have ht : (BitVec.twoPow 16 i).toNat = 2 ^ i := by rw [BitVec.toNat_twoPow, Nat.mod_eq_of_lt hp]
    rw [show IntKind.u16.bits = 16 from rfl, hm, ht, Int.one_mul, show ((2 : Int) ^ i) = ((2 ^ i : Nat) : Int) by rw [Int.natCast_pow]; rfl]
    exact wrap16 ⟨Int.natCast_nonneg _, by have : ((2 ^ i : Nat) : Int) < ((2 ^ 16 : Nat) : Int) := by exact_mod_cast hp
                                           have e : ((2 ^ 16 : Nat) : Int) = 65536 := by decide
                                           omega⟩)
end
theorem hasN (s : BS) (i : Nat) : s.getLsbD i = decide (s.toNat / 2 ^ i % 2 = 1) := by
  rw [BitVec.getLsbD, Nat.testBit_eq_decide_div_mod_eq]
theorem fdiv_pow (n i : Nat) : (n : Int).fdiv (2 ^ i) = ((n / 2 ^ i : Nat) : Int) := by
  rw [Int.fdiv_eq_ediv_of_nonneg _ (Int.pow_nonneg (by decide)), Int.natCast_ediv, Int.natCast_pow]
  rfl
theorem and_one16 (n : Nat) : ((BitVec.ofInt 16 (n : Int) &&& BitVec.ofInt 16 1).toNat : Int) = ((n % 2 : Nat) : Int) := by
  have h1 : (BitVec.ofInt 16 (1 : Int)).toNat = 1 := by decide
  rw [BitVec.toNat_and, h1, Nat.and_one_is_mod, BitVec.toNat_ofInt]
  have : ((n : Int) % ((2 ^ 16 : Nat) : Int)).toNat % 2 = n % 2 := by
    rw [show ((2 ^ 16 : Nat) : Int) = 65536 by decide]; omega
  rw [this]
theorem and_one64 (n : Nat) : ((BitVec.ofInt 64 (n : Int) &&& BitVec.ofInt 64 1).toNat : Int) = ((n % 2 : Nat) : Int) := by
  have h1 : (BitVec.ofInt 64 (1 : Int)).toNat = 1 := by decide
  rw [BitVec.toNat_and, h1, Nat.and_one_is_mod, BitVec.toNat_ofInt]
  have : ((n : Int) % ((2 ^ 64 : Nat) : Int)).toNat % 2 = n % 2 := by
    rw [show ((2 ^ 64 : Nat) : Int) = 18446744073709551616 by decide]; omega
  rw [this]
theorem bs_ext {s u : BS} (h : ∀ i, i < 16 → s.getLsbD i = u.getLsbD i) : s = u := BitVec.eq_of_getLsbD_eq h
theorem has_one {i j : Nat} (hi : i < 16) : (BitVec.twoPow 16 i).getLsbD j = decide (j = i) := by
  rw [BitVec.getLsbD_twoPow]
  by_cases e : j = i
  · subst e; simp [hi]
  · simp [e, Ne.symm e]
/-- The set of numbers that are so. -/
def ofP (p : Nat → Bool) : BS := (List.range 16).foldl (fun b i => if p i then b ||| BitVec.twoPow 16 i else b) 0#16
theorem ofP_aux (p : Nat → Bool) : ∀ n, n ≤ 16 → ∀ j, ((List.range n).foldl (fun b i => if p i then b ||| BitVec.twoPow 16 i else b) 0#16 : BS).getLsbD j = (decide (j < n) && p j)
  | 0, _, j => by simp
  | n + 1, h, j => by
    have ih := ofP_aux p n (by omega) j
    rw [List.range_succ, List.foldl_append, List.foldl_cons, List.foldl_nil]
    by_cases hp : p n = true
    · rw [if_pos hp, BitVec.getLsbD_or, ih, has_one (by omega)]
      by_cases e : j = n
      · subst e; simp [hp]
      · have : decide (j < n) = decide (j < n + 1) := by simp; omega
        rw [this]; simp [e]
    · rw [if_neg hp, ih]
      by_cases e : j = n
      · subst e; simp [hp]
      · have : decide (j < n) = decide (j < n + 1) := by simp; omega
        rw [this]
theorem has_ofP (p : Nat → Bool) (j : Nat) : (ofP p).getLsbD j = (decide (j < 16) && p j) := ofP_aux p 16 (Nat.le_refl _) j
/-- How many a set has not. -/
def cntN (s : BS) : Nat := (List.range 16).countP fun i => !s.getLsbD i
theorem countP_ltK {α : Type} {p q : α → Bool} : ∀ {l : List α}, (∀ x ∈ l, p x = true → q x = true) → (∃ x ∈ l, q x = true ∧ p x = false) → l.countP p < l.countP q
  | [], _, ⟨x, hx, _⟩ => by cases hx
  | a :: l, h, ⟨x, hx, h1, h2⟩ => by
    have hle : l.countP p ≤ l.countP q := List.countP_mono_left fun y hy => h y (List.mem_cons_of_mem _ hy)
    rcases List.mem_cons.1 hx with rfl | hx
    · rw [List.countP_cons_of_pos h1, List.countP_cons_of_neg (by rw [h2]; decide)]; omega
    · have := countP_ltK (l := l) (fun y hy => h y (List.mem_cons_of_mem _ hy)) ⟨x, hx, h1, h2⟩
      have ha := h a (List.mem_cons_self ..)
      rw [List.countP_cons, List.countP_cons]
      cases hp : p a
      · split <;> split <;> simp_all <;> omega
      · rw [ha hp]; simp; omega
theorem cnt_lt {s u : BS} (h : ∀ i, s.getLsbD i = true → u.getLsbD i = true) (hne : ¬ u = s) : cntN u < cntN s := by
  refine countP_ltK (fun i _ hi => ?_) ?_
  · cases hs : s.getLsbD i
    · rfl
    · rw [h i hs] at hi; cases hi
  · apply Classical.byContradiction
    intro hno
    refine hne (bs_ext fun i hi => ?_)
    cases hs : s.getLsbD i
    · cases hu : u.getLsbD i
      · rfl
      · exact absurd ⟨i, List.mem_range.2 hi, by rw [hs]; rfl, by rw [hu]; rfl⟩ hno
    · exact h i hs
end Go.Proofs.YthpkgabckklojaaGreat.Rk

/- Rack: words; the small functions. -/
namespace Go.Proofs.YthpkgabckklojaaGreat.Rk
open Go.RowKit Go.Shelf

structure Lk where
  f : Int
  t : Int
  s : Bool
deriving DecidableEq, Inhabited
def encLk (l : Lk) : List Value := [I l.f, I l.t, .bool l.s]
instance : Rec encLk 3 := ⟨fun _ => rfl, by decide⟩
theorem encLk_one (y : Lk) : (encLk y).all (·.oneCell') = true := rfl
instance : Rec encRg 2 := ⟨fun _ => rfl, by decide⟩
def encN (n : Int) : List Value := [I n]
instance : Rec encN 1 := ⟨fun _ => rfl, by decide⟩
theorem encN_one (y : Int) : (encN y).all (·.oneCell') = true := rfl
def encQ (b : Bool) : List Value := [.bool b]
instance : Rec encQ 1 := ⟨fun _ => rfl, by decide⟩
theorem encQ_one (y : Bool) : (encQ y).all (·.oneCell') = true := rfl
structure Rk where
  rows : Int
  mid : Int
  gap : Int
  rch : Int
  ls : List Lk
def inI (n lo hi : Int) : Bool := decide (lo ≤ n ∧ n ≤ hi)
theorem inI_iff {n lo hi : Int} : inI n lo hi = true ↔ lo ≤ n ∧ n ≤ hi := by simp [inI]
def pinsN (rows : Int) : Int := (rows * (rows + 1)).tdiv 2
def lkOk (r : Rk) (l : Lk) : Bool := inI l.f 0 (pinsN r.rows - 1) && (inI l.t 0 (pinsN r.rows - 1) && !decide (l.f = l.t))
def mayN (ls : List Lk) : Nat := ls.countP fun l => !l.s
def rFault (r : Rk) : Int := if 12 < r.ls.length ∨ 6 < mayN r.ls then 3 else if (inI r.rows 1 4 && (inI r.mid 0 60 && (inI r.gap 1 8 && (inI r.rch 0 10 && r.ls.all (lkOk r))))) = false then 1 else 0
structure VR (r : Rk) : Prop where
  n : r.ls.length ≤ 12
  m : mayN r.ls ≤ 6
  r0 : 1 ≤ r.rows
  r1 : r.rows ≤ 4
  m0 : 0 ≤ r.mid
  m1 : r.mid ≤ 60
  g0 : 1 ≤ r.gap
  g1 : r.gap ≤ 8
  h0 : 0 ≤ r.rch
  h1 : r.rch ≤ 10
  l : ∀ l ∈ r.ls, lkOk r l = true
theorem vr_of {r : Rk} (h : rFault r = 0) : VR r := by
  unfold rFault at h
  split at h
  · omega
  · split at h
    · omega
    · rename_i h1 h2
      rw [Bool.not_eq_false] at h2
      simp only [Bool.and_eq_true, inI_iff, List.all_eq_true] at h2
      obtain ⟨⟨a1, a2⟩, ⟨b1, b2⟩, ⟨c1, c2⟩, ⟨d1, d2⟩, e⟩ := h2
      exact ⟨by omega, by omega, a1, a2, b1, b2, c1, c2, d1, d2, e⟩
theorem of_vr {r : Rk} (h : VR r) : rFault r = 0 := by
  unfold rFault
  rw [if_neg (by have := h.n; have := h.m; omega), if_neg (by rw [inI_iff.2 ⟨h.r0, h.r1⟩, inI_iff.2 ⟨h.m0, h.m1⟩, inI_iff.2 ⟨h.g0, h.g1⟩, inI_iff.2 ⟨h.h0, h.h1⟩, List.all_eq_true.2 h.l]; decide)]
theorem pins_of {n : Int} (h0 : 1 ≤ n) (h1 : n ≤ 4) : pinsN n = (if n = 1 then 1 else if n = 2 then 3 else if n = 3 then 6 else 10) ∧ 1 ≤ pinsN n ∧ pinsN n ≤ 10 := by
  rcases (by omega : n = 1 ∨ n = 2 ∨ n = 3 ∨ n = 4) with rfl | rfl | rfl | rfl <;> decide
abbrev vRk (r : Rk) (a : Option Addr) (c : Nat) : Value := .agg #[I r.rows, I r.mid, I r.gap, I r.rch, .slice a r.ls.length c]
abbrev cRk (r : Rk) (a : Option Addr) (c : Nat) : List Value := [I r.rows, I r.mid, I r.gap, I r.rch, .slice a r.ls.length c]
abbrev KRk (r : Rk) (a : Option Addr) (c : Nat) : World → Prop := KSl a r.ls.length c encLk r.ls
theorem kwithin_j (n lo hi : Int) : Cv Tryz.prog 58 [I n, I lo, I hi] KTrue (.bool (inI n lo hi)) := by
  refine Cx_of Tryz.func58 rfl Tryz.ntmps58 rfl fun w0 M0 => ?_
  refine JC_seq ?_
  refine JC_region ?_
  refine JL_pd rfl (det_assign rfl) ?_
  refine JL_nil ?_
  refine JE_seq ?_
  refine JC_seq ?_
  refine JC_region ?_
  refine JL_pd rfl (det_move rfl) ?_
  refine JL_pd rfl (det_move rfl) ?_
  refine JL_pd rfl (det_leq rfl rfl) ?_
  refine JL_pd rfl (det_move rfl) ?_
  refine JL_split (d0 := 10) rfl (fun h1 => ?_) (fun h1 => ?_)
  · refine JL_guard rfl rfl h1 ?_
    refine JL_pd rfl (det_move rfl) ?_
    refine JL_guard rfl rfl h1 ?_
    refine JL_pd rfl (det_move rfl) ?_
    refine JL_guard rfl rfl h1 ?_
    refine JL_pd rfl (det_leq rfl rfl) ?_
    refine JL_pd rfl (det_pick_t rfl h1 rfl) ?_
    refine JL_pd rfl (det_assign rfl) ?_
    refine JL_nil ?_
    refine JE_seq ?_
    refine JC_ret ?_
    refine JE_out (.inl rfl) () (results1 Tryz.results58 (res_tmp rfl)) ?_ (List.Perm.refl _) (fun _ _ => trivial)
    (simp_all [inI])
    (try omega)
  · refine JL_skip rfl rfl h1 rfl ?_
    refine JL_skip rfl rfl h1 rfl ?_
    refine JL_skip rfl rfl h1 rfl ?_
    refine JL_pd rfl (det_pick_f rfl h1 rfl) ?_
    refine JL_pd rfl (det_assign rfl) ?_
    refine JL_nil ?_
    refine JE_seq ?_
    refine JC_ret ?_
    refine JE_out (.inl rfl) () (results1 Tryz.results58 (res_tmp rfl)) ?_ (List.Perm.refl _) (fun _ _ => trivial)
    (simp_all [inI])
    (try omega)
theorem In_j (n lo hi : Int) : Cv Tryz.prog 42 [I n, I lo, I hi] KTrue (.bool (inI n lo hi)) := by
  refine Cx_of Tryz.func42 rfl Tryz.ntmps42 rfl fun w0 M0 => ?_
  refine JC_seq ?_
  refine JC_region ?_
  refine JL_pd rfl (det_assign rfl) ?_
  refine JL_nil ?_
  refine JE_seq ?_
  refine JC_seq ?_
  refine JC_region ?_
  refine JL_pd rfl (det_move rfl) ?_
  refine JL_pd rfl (det_move rfl) ?_
  refine JL_pd rfl (det_geq rfl rfl) ?_
  refine JL_pd rfl (det_move rfl) ?_
  refine JL_split (d0 := 10) rfl (fun h1 => ?_) (fun h1 => ?_)
  · refine JL_guard rfl rfl h1 ?_
    refine JL_pd rfl (det_move rfl) ?_
    refine JL_guard rfl rfl h1 ?_
    refine JL_pd rfl (det_move rfl) ?_
    refine JL_guard rfl rfl h1 ?_
    refine JL_pd rfl (det_leq rfl rfl) ?_
    refine JL_pd rfl (det_pick_t rfl h1 rfl) ?_
    refine JL_pd rfl (det_assign rfl) ?_
    refine JL_nil ?_
    refine JE_seq ?_
    refine JC_ret ?_
    refine JE_out (.inl rfl) () (results1 Tryz.results42 (res_tmp rfl)) ?_ (List.Perm.refl _) (fun _ _ => trivial)
    (simp_all [inI])
    (try omega)
  · refine JL_skip rfl rfl h1 rfl ?_
    refine JL_skip rfl rfl h1 rfl ?_
    refine JL_skip rfl rfl h1 rfl ?_
    refine JL_pd rfl (det_pick_f rfl h1 rfl) ?_
    refine JL_pd rfl (det_assign rfl) ?_
    refine JL_nil ?_
    refine JE_seq ?_
    refine JC_ret ?_
    refine JE_out (.inl rfl) () (results1 Tryz.results42 (res_tmp rfl)) ?_ (List.Perm.refl _) (fun _ _ => trivial)
    (simp_all [inI])
    (try omega)
theorem mul_bd {a b A B : Int} (h1 : -A ≤ a) (h2 : a ≤ A) (h3 : -B ≤ b) (h4 : b ≤ B) (hA : 0 ≤ A) (hB : 0 ≤ B) : -(A * B) ≤ a * b ∧ a * b ≤ A * B := by
  have q1 : (a * b).natAbs = a.natAbs * b.natAbs := Int.natAbs_mul a b
  have q2 : a.natAbs * b.natAbs ≤ A.natAbs * B.natAbs := Nat.mul_le_mul (by omega) (by omega)
  have q3 : (A * B).natAbs = A.natAbs * B.natAbs := Int.natAbs_mul A B
  have q4 : 0 ≤ A * B := Int.mul_nonneg hA hB
  omega
theorem sq_bd {n : Int} (h0 : 1 ≤ n ∧ n ≤ 4) : InI (n * (n + 1)) ∧ InI ((n * (n + 1)).tdiv 2) := by
  rcases (by omega : n = 1 ∨ n = 2 ∨ n = 3 ∨ n = 4) with rfl | rfl | rfl | rfl <;> exact ⟨⟨by decide, by decide⟩, ⟨by decide, by decide⟩⟩
theorem pins_j (r : Rk) (a : Option Addr) (c : Nat) (h : 1 ≤ r.rows ∧ r.rows ≤ 4) : Cv Tryz.prog 152 [vRk r a c] KTrue (I (pinsN r.rows)) := by
  refine Cx_of Tryz.func152 rfl Tryz.ntmps152 rfl fun w0 M0 => ?_
  refine JC_seq ?_
  refine JC_region ?_
  refine JL_step rfl rfl rfl (jo_box rfl rfl) fun b1 => ?_
  refine JL_pd rfl (det_assign rfl) ?_
  refine JL_nil ?_
  refine JE_seq ?_
  refine JC_seq ?_
  refine JC_region ?_
  refine JL_pd rfl (det_fieldAddr rfl fo_65_0) ?_
  refine JL_dt rfl (det_loadK rfl Tryz.isAgg3 rfl) ?_
  refine JL_pd rfl (det_fieldAddr rfl fo_65_0) ?_
  refine JL_dt rfl (det_loadK rfl Tryz.isAgg3 rfl) ?_
  refine JL_pd rfl (det_add rfl rfl ⟨by omega, by omega⟩) ?_
  refine JL_pd rfl (det_mul rfl rfl (sq_bd h).1) ?_
  refine JL_pd rfl (det_quo rfl rfl (by decide) (sq_bd h).2) ?_
  refine JL_pd rfl (det_assign rfl) ?_
  refine JL_nil ?_
  refine JE_seq ?_
  refine JC_ret ?_
  -- stop: out
  refine JE_out (.inl rfl) () (results1 Tryz.results152 (res_tmp rfl)) rfl (List.Perm.refl _) (fun _ _ => trivial)
theorem Pins_j (r : Rk) (a : Option Addr) (c : Nat) (h : 1 ≤ r.rows ∧ r.rows ≤ 4) : Cv Tryz.prog 43 [vRk r a c] KTrue (I (pinsN r.rows)) := by
  refine Cx_of Tryz.func43 rfl Tryz.ntmps43 rfl fun w0 M0 => ?_
  refine JC_seq ?_
  refine JC_region ?_
  refine JL_step rfl rfl rfl (jo_box rfl rfl) fun b1 => ?_
  refine JL_pd rfl (det_assign rfl) ?_
  refine JL_nil ?_
  refine JE_seq ?_
  refine JC_seq ?_
  refine JC_region ?_
  refine JL_pd rfl (det_fieldAddr rfl fo_30_0) ?_
  refine JL_dt rfl (det_loadK rfl Tryz.isAgg3 rfl) ?_
  refine JL_pd rfl (det_fieldAddr rfl fo_30_0) ?_
  refine JL_dt rfl (det_loadK rfl Tryz.isAgg3 rfl) ?_
  refine JL_pd rfl (det_add rfl rfl ⟨by omega, by omega⟩) ?_
  refine JL_pd rfl (det_mul rfl rfl (sq_bd h).1) ?_
  refine JL_pd rfl (det_quo rfl rfl (by decide) (sq_bd h).2) ?_
  refine JL_pd rfl (det_assign rfl) ?_
  refine JL_nil ?_
  refine JE_seq ?_
  refine JC_ret ?_
  -- stop: out
  refine JE_out (.inl rfl) () (results1 Tryz.results43 (res_tmp rfl)) rfl (List.Perm.refl _) (fun _ _ => trivial)
theorem pin_j (r : Rk) (a : Option Addr) (c : Nat) (h : 1 ≤ r.rows ∧ r.rows ≤ 4) (n : Int) : Cv Tryz.prog 115 [vRk r a c, I n] KTrue (.bool (inI n 0 (pinsN r.rows - 1))) := by
  have hp := pins_of h.1 h.2
  refine Cx_of Tryz.func115 rfl Tryz.ntmps115 rfl fun w0 M0 => ?_
  refine JC_seq ?_
  refine JC_region ?_
  refine JL_step rfl rfl rfl (jo_box rfl rfl) fun b2 => ?_
  refine JL_pd rfl (det_assign rfl) ?_
  refine JL_nil ?_
  refine JE_seq ?_
  refine JC_seq ?_
  refine JC_region ?_
  refine JL_pd rfl (det_move rfl) ?_
  refine JL_dt rfl (det_loadKA rfl Tryz.isAgg65 Tryz.sizeOf65 rfl rfl) ?_
  refine JL_step rfl rfl rfl (jo_callv rfl rfl Tryz.call152 rfl (pins_j r a c h)) fun _ => ?_
  refine JL_pd rfl (det_sub rfl rfl ⟨by omega, by omega⟩) ?_
  refine JL_step rfl rfl rfl (jo_callv rfl rfl Tryz.call58 rfl (kwithin_j _ _ _)) fun _ => ?_
  refine JL_pd rfl (det_assign rfl) ?_
  refine JL_nil ?_
  refine JE_seq ?_
  refine JC_ret ?_
  -- stop: out
  refine JE_out (.inl rfl) () (results1 Tryz.results115 (res_tmp rfl)) rfl (List.Perm.refl _) (fun _ _ => trivial)
theorem link_j (r : Rk) (a : Option Addr) (c : Nat) (h : 1 ≤ r.rows ∧ r.rows ≤ 4) (l : Lk) : Cv Tryz.prog 150 [vRk r a c, .agg #[I l.f, I l.t, .bool l.s]] KTrue (.bool (lkOk r l)) := by
  have hp := fun n => pin_j r a c h n
  refine Cx_of Tryz.func150 rfl Tryz.ntmps150 rfl fun w0 M0 => ?_
  refine JC_seq ?_
  refine JC_region ?_
  refine JL_step rfl rfl rfl (jo_box rfl rfl) fun b2 => ?_
  refine JL_step rfl rfl rfl (jo_box rfl rfl) fun b3 => ?_
  refine JL_pd rfl (det_assign rfl) ?_
  refine JL_nil ?_
  refine JE_seq ?_
  refine JC_seq ?_
  refine JC_region ?_
  refine JL_dt rfl (det_loadKA rfl Tryz.isAgg65 Tryz.sizeOf65 rfl rfl) ?_
  refine JL_pd rfl (det_fieldAddr rfl fo_141_0) ?_
  refine JL_dt rfl (det_loadK rfl Tryz.isAgg3 rfl) ?_
  refine JL_step rfl rfl rfl (jo_callv rfl rfl Tryz.call115 rfl (hp _)) fun _ => ?_
  refine JL_pd rfl (det_move rfl) ?_
  -- stop: guard 4
  refine JL_join1 13 4 (.bool (lkOk r l)) (fun hj => ?_) ?_
  · refine JL_split (d0 := 9) rfl (fun q2 => ?_) (fun q2 => ?_)
    · refine JL_guard rfl rfl q2 ?_
      refine JL_dt rfl (det_loadKA rfl Tryz.isAgg65 Tryz.sizeOf65 rfl rfl) ?_
      refine JL_guard rfl rfl q2 ?_
      refine JL_pd rfl (det_fieldAddr rfl fo_141_1) ?_
      refine JL_guard rfl rfl q2 ?_
      refine JL_dt rfl (det_loadK rfl Tryz.isAgg3 rfl) ?_
      refine JL_guard rfl rfl q2 ?_
      refine JL_step rfl rfl rfl (jo_callv rfl rfl Tryz.call115 rfl (hp _)) fun _ => ?_
      refine JL_pd rfl (det_pick_t rfl q2 rfl) ?_
      refine JL_pd rfl (det_move rfl) ?_
      refine JL_split (d0 := 15) rfl (fun q3 => ?_) (fun q3 => ?_)
      · refine JL_guard rfl rfl q3 ?_
        refine JL_pd rfl (det_fieldAddr rfl fo_141_0) ?_
        refine JL_guard rfl rfl q3 ?_
        refine JL_dt rfl (det_loadK rfl Tryz.isAgg3 rfl) ?_
        refine JL_guard rfl rfl q3 ?_
        refine JL_pd rfl (det_fieldAddr rfl fo_141_1) ?_
        refine JL_guard rfl rfl q3 ?_
        refine JL_dt rfl (det_loadK rfl Tryz.isAgg3 rfl) ?_
        refine JL_guard rfl rfl q3 ?_
        refine JL_pd rfl (det_neq rfl rfl) ?_
        refine JL_pd rfl (det_pick_t rfl q3 rfl) ?_
        refine JL_pd rfl (det_assign rfl) ?_
        exact hj (by kernel_rfl) (stsub_consB rfl (by clear hj; first | rfl | (simp only [lkOk, q2, q3, Bool.and_true, Bool.true_and, Bool.false_and, Bool.and_false, Bool.or_true, Bool.true_or, Bool.or_false, Bool.false_or, Bool.not_true, Bool.not_false]; done) | (simp [lkOk, q2, q3]; done) | (simp [lkOk] at q2; done) | (simp [lkOk] at q3; done) | (simp [lkOk, q2, q3] <;> omega) | (exfalso; simp [lkOk] at q2 q3; omega) | (simp [q3, lkOk] at q2; done) | (simp [q2, lkOk] at q3; done)) stsub_nil)
      · refine JL_skip rfl rfl q3 rfl ?_
        refine JL_skip rfl rfl q3 rfl ?_
        refine JL_skip rfl rfl q3 rfl ?_
        refine JL_skip rfl rfl q3 rfl ?_
        refine JL_skip rfl rfl q3 rfl ?_
        refine JL_pd rfl (det_pick_f rfl q3 rfl) ?_
        refine JL_pd rfl (det_assign rfl) ?_
        exact hj (by kernel_rfl) (stsub_consB rfl (by clear hj; first | rfl | (simp only [lkOk, q2, q3, Bool.and_true, Bool.true_and, Bool.false_and, Bool.and_false, Bool.or_true, Bool.true_or, Bool.or_false, Bool.false_or, Bool.not_true, Bool.not_false]; done) | (simp [lkOk, q2, q3]; done) | (simp [lkOk] at q2; done) | (simp [lkOk] at q3; done) | (simp [lkOk, q2, q3] <;> omega) | (exfalso; simp [lkOk] at q2 q3; omega) | (simp [q3, lkOk] at q2; done) | (simp [q2, lkOk] at q3; done)) stsub_nil)
    · refine JL_skip rfl rfl q2 rfl ?_
      refine JL_skip rfl rfl q2 rfl ?_
      refine JL_skip rfl rfl q2 rfl ?_
      refine JL_skip rfl rfl q2 rfl ?_
      refine JL_pd rfl (det_pick_f rfl q2 rfl) ?_
      refine JL_pd rfl (det_move rfl) ?_
      refine JL_skip rfl rfl rfl rfl ?_
      refine JL_skip rfl rfl rfl rfl ?_
      refine JL_skip rfl rfl rfl rfl ?_
      refine JL_skip rfl rfl rfl rfl ?_
      refine JL_skip rfl rfl rfl rfl ?_
      refine JL_pd rfl (det_pick_f rfl rfl rfl) ?_
      refine JL_pd rfl (det_assign rfl) ?_
      exact hj (by kernel_rfl) (stsub_consB rfl (by clear hj; first | rfl | (simp only [lkOk, q2, Bool.and_true, Bool.true_and, Bool.false_and, Bool.and_false, Bool.or_true, Bool.true_or, Bool.or_false, Bool.false_or, Bool.not_true, Bool.not_false]; done) | (simp [lkOk, q2]; done) | (simp [lkOk] at q2; done) | (simp [lkOk, q2] <;> omega) | (exfalso; simp [lkOk] at q2; omega)) stsub_nil)
  refine JL_nil ?_
  refine JE_seq ?_
  refine JC_ret ?_
  -- stop: out
  refine JE_out (.inl rfl) () (results1 Tryz.results150 (res_tmp rfl)) rfl (List.Perm.refl _) (fun _ _ => trivial)
end Go.Proofs.YthpkgabckklojaaGreat.Rk

/- Rack: all of a list; a list that rises; whether a rack is valid. -/
namespace Go.Proofs.YthpkgabckklojaaGreat.Rk
open Go.RowKit Go.Shelf

set_option maxRecDepth 100000 in
theorem indexFuncI_j (p : Int → Bool) (F : Nat) (fs cs : List Value) (Kf : World → Prop) (eF : ∀ args w, (callFunc F args).run Tryz.prog w = .ok (.enter F args) w) (a : Option Addr) (cap : Nat) (xs : List Int) (hF : ∀ x ∈ xs, Cv Tryz.prog F (fs ++ [I x] ++ cs) Kf (.bool (p x))) (hl : xs.length ≤ 9223372036854775807) :
    Cv Tryz.prog 187 [.slice a xs.length cap, .func (.func F) fs.toArray cs.toArray] (KAnd (KSl a xs.length cap encN xs) Kf) (I (idxOf p xs)) := by
  refine Cx_of Tryz.func187 rfl Tryz.ntmps187 rfl fun w0 M0 => ?_
  refine JC_seq ?_
  refine JC_region ?_
  refine JL_pd rfl (det_assign rfl) ?_
  refine JL_nil ?_
  refine JE_seq ?_
  refine JC_seq ?_
  refine JC_seq ?_
  refine JC_region ?_
  refine JL_pd rfl (det_move rfl) ?_
  refine JL_pd rfl (det_len rfl Tryz.runUnderlying31) ?_
  refine JL_pd rfl (det_move rfl) ?_
  refine JL_nil ?_
  refine JE_seq ?_
  refine JC_block ?_
  -- stop: loop
  refine JC_loopF (γ := Nat) (fun i => i ≤ xs.length ∧ (xs.take i).any p = false) (fun i => [(8, I i)]) (fun _ => []) (fun i => xs.length - i) 0 ⟨Nat.zero_le _, rfl⟩ (stsub_consI rfl rfl stsub_nil) ht_nil ?_
  rintro i ⟨hi, hno⟩ K hK
  dsimp only [List.cons_append, List.nil_append]
  refine JC_seq ?_
  refine JC_region ?_
  refine JL_pd rfl (det_lss rfl rfl) ?_
  refine JL_nil ?_
  refine JE_seq ?_
  refine JC_seq ?_
  -- stop: cond
  refine JC_if rfl (fun h1 => ?_) (fun h1 => ?_)
  · have hi2 : i < xs.length := by omega
    refine JC_skip ?_
    refine JE_seq ?_
    refine JC_seq ?_
    refine JC_block ?_
    refine JC_seq ?_
    refine JC_region ?_
    refine JL_pd rfl (det_move rfl) ?_
    refine JL_pd rfl (det_assign rfl) ?_
    refine JL_nil ?_
    refine JE_seq ?_
    refine JC_seq ?_
    refine JC_region ?_
    refine JL_pd rfl (det_move rfl) ?_
    refine JL_pd rfl (det_move rfl) ?_
    refine JL_pd rfl (det_move rfl) ?_
    refine JL_dt rfl (det_indexAddr rfl rfl (by first | rfl | omega) (by first | assumption | omega | decide) Tryz.runUnderlying31 Tryz.sizeOf3) ?_
    refine JL_dt rfl (det_loadE rfl (by first | assumption | omega | decide) Tryz.isAgg3 rfl rfl) ?_
    -- stop: op  5 t16 := (call (Call (value t11) (t15) (3)))   <0 4>   109
    refine JL_step rfl rfl rfl (jo_callv rfl rfl eF rfl (hF xs[i] (List.getElem_mem hi2))) fun _ => ?_
    refine JL_nil ?_
    refine JE_seq ?_
    -- stop: cond
    refine JC_cond rfl (fun h2 => ?_) (fun h2 => ?_)
    · refine JC_seq ?_
      refine JC_region ?_
      refine JL_pd rfl (det_move rfl) ?_
      refine JL_pd rfl (det_assign rfl) ?_
      refine JL_nil ?_
      refine JE_seq ?_
      refine JC_ret ?_
      refine JE_block_ret ?_
      refine JE_seq_ret ?_
      refine JE_then_ret ?_
      refine JE_block_ret ?_
      refine JE_seq_ret ?_
      -- stop: out
      refine JE_out (.inl rfl) () (results1 Tryz.results187 (res_tmp rfl)) (by rw [idxOf_hit hi2 hno h2]) (List.Perm.refl _) (fun _ _ => trivial)
    · refine JC_skip ?_
      refine JE_block ?_
      refine JE_seq ?_
      refine JC_region ?_
      refine JL_pd rfl (det_add rfl rfl ⟨by omega, by omega⟩) ?_
      refine JL_pd rfl (det_move rfl) ?_
      refine JL_nil ?_
      -- stop: end
      refine JE_roundF hK (i + 1) ⟨by omega, by rw [List.take_succ_eq_append_getElem hi2, List.any_append, hno]; simp [h2]⟩ (by omega) (stsub_consI rfl (by omega) stsub_nil) ht_nil
  · refine JC_exit ?_
    refine JE_seq_exit ?_
    refine JE_then_exit ?_
    refine JE_block_here ?_
    refine JE_seq ?_
    refine JC_seq ?_
    refine JC_region ?_
    refine JL_pd rfl (det_assign rfl) ?_
    refine JL_nil ?_
    refine JE_seq ?_
    refine JC_ret ?_
    -- stop: out
    obtain rfl : i = xs.length := by omega
    rw [List.take_length] at hno
    refine JE_out (.inl rfl) () (results1 Tryz.results187 (res_tmp rfl)) (by rw [idxOf_none hno]) (List.Perm.refl _) (fun _ _ => trivial)
theorem containsFuncI_j (p : Int → Bool) (F : Nat) (fs cs : List Value) (Kf : World → Prop) (eF : ∀ args w, (callFunc F args).run Tryz.prog w = .ok (.enter F args) w) (a : Option Addr) (cap : Nat) (xs : List Int) (hF : ∀ x ∈ xs, Cv Tryz.prog F (fs ++ [I x] ++ cs) Kf (.bool (p x))) (hl : xs.length ≤ 9223372036854775807) :
    Cv Tryz.prog 137 [.slice a xs.length cap, .func (.func F) fs.toArray cs.toArray] (KAnd (KSl a xs.length cap encN xs) Kf) (.bool (xs.any p)) := by
  refine Cx_of Tryz.func137 rfl Tryz.ntmps137 rfl fun w0 M0 => ?_
  refine JC_seq ?_
  refine JC_region ?_
  refine JL_pd rfl (det_assign rfl) ?_
  refine JL_nil ?_
  refine JE_seq ?_
  refine JC_seq ?_
  refine JC_region ?_
  refine JL_pd rfl (det_move rfl) ?_
  refine JL_pd rfl (det_move rfl) ?_
  -- stop: op  2 t7 := (call (Call (value f187) (t5 t6) (31 119)))   <0 1>   125
  refine JL_step rfl rfl rfl (jo_callv rfl rfl Tryz.call187 rfl (indexFuncI_j p F fs cs Kf eF a cap xs hF hl)) fun _ => ?_
  refine JL_pd rfl (det_geq rfl rfl) ?_
  refine JL_pd rfl (det_assign rfl) ?_
  refine JL_nil ?_
  refine JE_seq ?_
  refine JC_ret ?_
  -- stop: out
  refine JE_out (.inl rfl) () (results1 Tryz.results137 (res_tmp rfl)) (by rw [show decide ((0 : Int) ≤ idxOf p xs) = xs.any p from idxOf_any]) (List.Perm.refl _) (fun _ _ => trivial)
theorem allI_1 (p : Int → Bool) (F : Nat) (fs cs : List Value) (Kf : World → Prop) (eF : ∀ args w, (callFunc F args).run Tryz.prog w = .ok (.enter F args) w) (x : Int) (hF : Cv Tryz.prog F (fs ++ [I x] ++ cs) Kf (.bool (p x))) (b : Nat) :
    Cv Tryz.prog 151 [I x, .pointer (some ⟨b, 0, none⟩)] (KAnd (KBox b [.func (.func F) fs.toArray cs.toArray]) Kf) (.bool (!p x)) := by
  refine Cx_of Tryz.func151 rfl Tryz.ntmps151 rfl fun w0 M0 => ?_
  refine JC_seq ?_
  refine JC_region ?_
  refine JL_pd rfl (det_assign rfl) ?_
  refine JL_nil ?_
  refine JE_seq ?_
  refine JC_seq ?_
  refine JC_region ?_
  refine JL_dt rfl (det_loadK rfl Tryz.isAgg119 rfl) ?_
  refine JL_pd rfl (det_move rfl) ?_
  -- stop: op  2 t6 := (call (Call (value t4) (t5) (3)))   <0 1>   43
  refine JL_step rfl rfl rfl (jo_callv rfl rfl eF rfl (hF)) fun _ => ?_
  refine JL_pd rfl (det_not rfl) ?_
  refine JL_pd rfl (det_assign rfl) ?_
  refine JL_nil ?_
  refine JE_seq ?_
  refine JC_ret ?_
  -- stop: out
  refine JE_out (.inl rfl) () (results1 Tryz.results151 (res_tmp rfl)) rfl (List.Perm.refl _) (fun _ _ => trivial)
theorem allI_j (p : Int → Bool) (F : Nat) (fs cs : List Value) (Kf : World → Prop) (eF : ∀ args w, (callFunc F args).run Tryz.prog w = .ok (.enter F args) w) (a : Option Addr) (cap : Nat) (xs : List Int) (hF : ∀ x ∈ xs, Cv Tryz.prog F (fs ++ [I x] ++ cs) Kf (.bool (p x))) (hl : xs.length ≤ 9223372036854775807) :
    Cv Tryz.prog 114 [.slice a xs.length cap, .func (.func F) fs.toArray cs.toArray] (KAnd (KSl a xs.length cap encN xs) Kf) (.bool (xs.all p)) := by
  have hcf := fun b3 : Nat => containsFuncI_j (fun x => !p x) 151 [] [.pointer (some ⟨b3, 0, none⟩)] _ Tryz.call151 a cap xs (fun x hx => allI_1 p F fs cs Kf eF x (hF x hx) b3) hl
  refine Cx_of Tryz.func114 rfl Tryz.ntmps114 rfl fun w0 M0 => ?_
  refine JC_seq ?_
  refine JC_region ?_
  refine JL_step rfl rfl rfl (jo_box rfl rfl) fun b3 => ?_
  refine JL_pd rfl (det_assign rfl) ?_
  refine JL_nil ?_
  refine JE_seq ?_
  refine JC_seq ?_
  refine JC_region ?_
  refine JL_pd rfl (det_move rfl) ?_
  refine JL_pd rfl (det_makeFuncE rfl rfl) ?_
  -- stop: op  2 t7 := (call (Call (value f137) (t5 t6) (31 119)))   <0 1>   43
  refine JL_keep b3 noFp ?_
  refine JL_step rfl rfl rfl (jo_callv rfl rfl Tryz.call137 rfl (hcf b3)) fun _ => ?_
  refine JL_pd rfl (det_not rfl) ?_
  refine JL_pd rfl (det_assign rfl) ?_
  refine JL_nil ?_
  refine JE_seq ?_
  refine JC_ret ?_
  -- stop: out
  refine JE_out (.inl rfl) () (results1 Tryz.results114 (res_tmp rfl)) (by simp [List.all_eq_not_any_not]) (List.Perm.refl _) (fun _ _ => trivial)
set_option maxRecDepth 100000 in
theorem indexFuncR_j (p : Rg → Bool) (F : Nat) (fs cs : List Value) (Kf : World → Prop) (eF : ∀ args w, (callFunc F args).run Tryz.prog w = .ok (.enter F args) w) (a : Option Addr) (cap : Nat) (xs : List Rg) (hF : ∀ x ∈ xs, Cv Tryz.prog F (fs ++ [.agg #[I x.lo, I x.hi]] ++ cs) Kf (.bool (p x))) (hl : xs.length ≤ 9223372036854775807) :
    Cv Tryz.prog 228 [.slice a xs.length cap, .func (.func F) fs.toArray cs.toArray] (KAnd (KSl a xs.length cap encRg xs) Kf) (I (idxOf p xs)) := by
  refine Cx_of Tryz.func228 rfl Tryz.ntmps228 rfl fun w0 M0 => ?_
  refine JC_seq ?_
  refine JC_region ?_
  refine JL_pd rfl (det_assign rfl) ?_
  refine JL_nil ?_
  refine JE_seq ?_
  refine JC_seq ?_
  refine JC_seq ?_
  refine JC_region ?_
  refine JL_pd rfl (det_move rfl) ?_
  refine JL_pd rfl (det_len rfl Tryz.runUnderlying67) ?_
  refine JL_pd rfl (det_move rfl) ?_
  refine JL_nil ?_
  refine JE_seq ?_
  refine JC_block ?_
  -- stop: loop
  refine JC_loopF (γ := Nat) (fun i => i ≤ xs.length ∧ (xs.take i).any p = false) (fun i => [(8, I i)]) (fun _ => []) (fun i => xs.length - i) 0 ⟨Nat.zero_le _, rfl⟩ (stsub_consI rfl rfl stsub_nil) ht_nil ?_
  rintro i ⟨hi, hno⟩ K hK
  dsimp only [List.cons_append, List.nil_append]
  refine JC_seq ?_
  refine JC_region ?_
  refine JL_pd rfl (det_lss rfl rfl) ?_
  refine JL_nil ?_
  refine JE_seq ?_
  refine JC_seq ?_
  -- stop: cond
  refine JC_if rfl (fun h1 => ?_) (fun h1 => ?_)
  · have hi2 : i < xs.length := by omega
    refine JC_skip ?_
    refine JE_seq ?_
    refine JC_seq ?_
    refine JC_block ?_
    refine JC_seq ?_
    refine JC_region ?_
    refine JL_pd rfl (det_move rfl) ?_
    refine JL_pd rfl (det_assign rfl) ?_
    refine JL_nil ?_
    refine JE_seq ?_
    refine JC_seq ?_
    refine JC_region ?_
    refine JL_pd rfl (det_move rfl) ?_
    refine JL_pd rfl (det_move rfl) ?_
    refine JL_pd rfl (det_move rfl) ?_
    refine JL_dt rfl (det_indexAddr rfl rfl (by first | rfl | omega) (by first | assumption | omega | decide) Tryz.runUnderlying67 Tryz.sizeOf71) ?_
    refine JL_dt rfl (det_loadEA rfl (by first | assumption | omega | decide) Tryz.isAgg71 Tryz.sizeOf71 rfl rfl rfl) ?_
    -- stop: op  5 t16 := (call (Call (value t11) (t15) (71)))   <0 4>   109
    refine JL_step rfl rfl rfl (jo_callv rfl rfl eF rfl (hF xs[i] (List.getElem_mem hi2))) fun _ => ?_
    refine JL_nil ?_
    refine JE_seq ?_
    -- stop: cond
    refine JC_cond rfl (fun h2 => ?_) (fun h2 => ?_)
    · refine JC_seq ?_
      refine JC_region ?_
      refine JL_pd rfl (det_move rfl) ?_
      refine JL_pd rfl (det_assign rfl) ?_
      refine JL_nil ?_
      refine JE_seq ?_
      refine JC_ret ?_
      refine JE_block_ret ?_
      refine JE_seq_ret ?_
      refine JE_then_ret ?_
      refine JE_block_ret ?_
      refine JE_seq_ret ?_
      -- stop: out
      refine JE_out (.inl rfl) () (results1 Tryz.results228 (res_tmp rfl)) (by rw [idxOf_hit hi2 hno h2]) (List.Perm.refl _) (fun _ _ => trivial)
    · refine JC_skip ?_
      refine JE_block ?_
      refine JE_seq ?_
      refine JC_region ?_
      refine JL_pd rfl (det_add rfl rfl ⟨by omega, by omega⟩) ?_
      refine JL_pd rfl (det_move rfl) ?_
      refine JL_nil ?_
      -- stop: end
      refine JE_roundF hK (i + 1) ⟨by omega, by rw [List.take_succ_eq_append_getElem hi2, List.any_append, hno]; simp [h2]⟩ (by omega) (stsub_consI rfl (by omega) stsub_nil) ht_nil
  · refine JC_exit ?_
    refine JE_seq_exit ?_
    refine JE_then_exit ?_
    refine JE_block_here ?_
    refine JE_seq ?_
    refine JC_seq ?_
    refine JC_region ?_
    refine JL_pd rfl (det_assign rfl) ?_
    refine JL_nil ?_
    refine JE_seq ?_
    refine JC_ret ?_
    -- stop: out
    obtain rfl : i = xs.length := by omega
    rw [List.take_length] at hno
    refine JE_out (.inl rfl) () (results1 Tryz.results228 (res_tmp rfl)) (by rw [idxOf_none hno]) (List.Perm.refl _) (fun _ _ => trivial)
theorem containsFuncR_j (p : Rg → Bool) (F : Nat) (fs cs : List Value) (Kf : World → Prop) (eF : ∀ args w, (callFunc F args).run Tryz.prog w = .ok (.enter F args) w) (a : Option Addr) (cap : Nat) (xs : List Rg) (hF : ∀ x ∈ xs, Cv Tryz.prog F (fs ++ [.agg #[I x.lo, I x.hi]] ++ cs) Kf (.bool (p x))) (hl : xs.length ≤ 9223372036854775807) :
    Cv Tryz.prog 201 [.slice a xs.length cap, .func (.func F) fs.toArray cs.toArray] (KAnd (KSl a xs.length cap encRg xs) Kf) (.bool (xs.any p)) := by
  refine Cx_of Tryz.func201 rfl Tryz.ntmps201 rfl fun w0 M0 => ?_
  refine JC_seq ?_
  refine JC_region ?_
  refine JL_pd rfl (det_assign rfl) ?_
  refine JL_nil ?_
  refine JE_seq ?_
  refine JC_seq ?_
  refine JC_region ?_
  refine JL_pd rfl (det_move rfl) ?_
  refine JL_pd rfl (det_move rfl) ?_
  -- stop: op  2 t7 := (call (Call (value f228) (t5 t6) (67 259)))   <0 1>   125
  refine JL_step rfl rfl rfl (jo_callv rfl rfl Tryz.call228 rfl (indexFuncR_j p F fs cs Kf eF a cap xs hF hl)) fun _ => ?_
  refine JL_pd rfl (det_geq rfl rfl) ?_
  refine JL_pd rfl (det_assign rfl) ?_
  refine JL_nil ?_
  refine JE_seq ?_
  refine JC_ret ?_
  -- stop: out
  refine JE_out (.inl rfl) () (results1 Tryz.results201 (res_tmp rfl)) (by rw [show decide ((0 : Int) ≤ idxOf p xs) = xs.any p from idxOf_any]) (List.Perm.refl _) (fun _ _ => trivial)
theorem allR_1 (p : Rg → Bool) (F : Nat) (fs cs : List Value) (Kf : World → Prop) (eF : ∀ args w, (callFunc F args).run Tryz.prog w = .ok (.enter F args) w) (x : Rg) (hF : Cv Tryz.prog F (fs ++ [.agg #[I x.lo, I x.hi]] ++ cs) Kf (.bool (p x))) (b : Nat) :
    Cv Tryz.prog 202 [.agg #[I x.lo, I x.hi], .pointer (some ⟨b, 0, none⟩)] (KAnd (KBox b [.func (.func F) fs.toArray cs.toArray]) Kf) (.bool (!p x)) := by
  refine Cx_of Tryz.func202 rfl Tryz.ntmps202 rfl fun w0 M0 => ?_
  refine JC_seq ?_
  refine JC_region ?_
  refine JL_step rfl rfl rfl (jo_box rfl rfl) fun b2 => ?_
  refine JL_pd rfl (det_assign rfl) ?_
  refine JL_nil ?_
  refine JE_seq ?_
  refine JC_seq ?_
  refine JC_region ?_
  refine JL_dt rfl (det_loadK rfl Tryz.isAgg259 rfl) ?_
  refine JL_dt rfl (det_loadKA rfl Tryz.isAgg71 Tryz.sizeOf71 rfl rfl) ?_
  -- stop: op  2 t6 := (call (Call (value t4) (t5) (71)))   <0 1>   43
  refine JL_step rfl rfl rfl (jo_callv rfl rfl eF rfl (hF)) fun _ => ?_
  refine JL_pd rfl (det_not rfl) ?_
  refine JL_pd rfl (det_assign rfl) ?_
  refine JL_nil ?_
  refine JE_seq ?_
  refine JC_ret ?_
  -- stop: out
  refine JE_out (.inl rfl) () (results1 Tryz.results202 (res_tmp rfl)) rfl (List.Perm.refl _) (fun _ _ => trivial)
theorem allR_j (p : Rg → Bool) (F : Nat) (fs cs : List Value) (Kf : World → Prop) (eF : ∀ args w, (callFunc F args).run Tryz.prog w = .ok (.enter F args) w) (a : Option Addr) (cap : Nat) (xs : List Rg) (hF : ∀ x ∈ xs, Cv Tryz.prog F (fs ++ [.agg #[I x.lo, I x.hi]] ++ cs) Kf (.bool (p x))) (hl : xs.length ≤ 9223372036854775807) :
    Cv Tryz.prog 146 [.slice a xs.length cap, .func (.func F) fs.toArray cs.toArray] (KAnd (KSl a xs.length cap encRg xs) Kf) (.bool (xs.all p)) := by
  have hcf := fun b3 : Nat => containsFuncR_j (fun x => !p x) 202 [] [.pointer (some ⟨b3, 0, none⟩)] _ Tryz.call202 a cap xs (fun x hx => allR_1 p F fs cs Kf eF x (hF x hx) b3) hl
  refine Cx_of Tryz.func146 rfl Tryz.ntmps146 rfl fun w0 M0 => ?_
  refine JC_seq ?_
  refine JC_region ?_
  refine JL_step rfl rfl rfl (jo_box rfl rfl) fun b3 => ?_
  refine JL_pd rfl (det_assign rfl) ?_
  refine JL_nil ?_
  refine JE_seq ?_
  refine JC_seq ?_
  refine JC_region ?_
  refine JL_pd rfl (det_move rfl) ?_
  refine JL_pd rfl (det_makeFuncE rfl rfl) ?_
  -- stop: op  2 t7 := (call (Call (value f201) (t5 t6) (67 259)))   <0 1>   43
  refine JL_keep b3 noFp ?_
  refine JL_step rfl rfl rfl (jo_callv rfl rfl Tryz.call201 rfl (hcf b3)) fun _ => ?_
  refine JL_pd rfl (det_not rfl) ?_
  refine JL_pd rfl (det_assign rfl) ?_
  refine JL_nil ?_
  refine JE_seq ?_
  refine JC_ret ?_
  -- stop: out
  refine JE_out (.inl rfl) () (results1 Tryz.results146 (res_tmp rfl)) (by simp [List.all_eq_not_any_not]) (List.Perm.refl _) (fun _ _ => trivial)
set_option maxRecDepth 100000 in
theorem indexFuncL_j (p : Lk → Bool) (F : Nat) (fs cs : List Value) (Kf : World → Prop) (eF : ∀ args w, (callFunc F args).run Tryz.prog w = .ok (.enter F args) w) (a : Option Addr) (cap : Nat) (xs : List Lk) (hF : ∀ x ∈ xs, Cv Tryz.prog F (fs ++ [.agg #[I x.f, I x.t, .bool x.s]] ++ cs) Kf (.bool (p x))) (hl : xs.length ≤ 9223372036854775807) :
    Cv Tryz.prog 229 [.slice a xs.length cap, .func (.func F) fs.toArray cs.toArray] (KAnd (KSl a xs.length cap encLk xs) Kf) (I (idxOf p xs)) := by
  refine Cx_of Tryz.func229 rfl Tryz.ntmps229 rfl fun w0 M0 => ?_
  refine JC_seq ?_
  refine JC_region ?_
  refine JL_pd rfl (det_assign rfl) ?_
  refine JL_nil ?_
  refine JE_seq ?_
  refine JC_seq ?_
  refine JC_seq ?_
  refine JC_region ?_
  refine JL_pd rfl (det_move rfl) ?_
  refine JL_pd rfl (det_len rfl Tryz.runUnderlying63) ?_
  refine JL_pd rfl (det_move rfl) ?_
  refine JL_nil ?_
  refine JE_seq ?_
  refine JC_block ?_
  -- stop: loop
  refine JC_loopF (γ := Nat) (fun i => i ≤ xs.length ∧ (xs.take i).any p = false) (fun i => [(8, I i)]) (fun _ => []) (fun i => xs.length - i) 0 ⟨Nat.zero_le _, rfl⟩ (stsub_consI rfl rfl stsub_nil) ht_nil ?_
  rintro i ⟨hi, hno⟩ K hK
  dsimp only [List.cons_append, List.nil_append]
  refine JC_seq ?_
  refine JC_region ?_
  refine JL_pd rfl (det_lss rfl rfl) ?_
  refine JL_nil ?_
  refine JE_seq ?_
  refine JC_seq ?_
  -- stop: cond
  refine JC_if rfl (fun h1 => ?_) (fun h1 => ?_)
  · have hi2 : i < xs.length := by omega
    refine JC_skip ?_
    refine JE_seq ?_
    refine JC_seq ?_
    refine JC_block ?_
    refine JC_seq ?_
    refine JC_region ?_
    refine JL_pd rfl (det_move rfl) ?_
    refine JL_pd rfl (det_assign rfl) ?_
    refine JL_nil ?_
    refine JE_seq ?_
    refine JC_seq ?_
    refine JC_region ?_
    refine JL_pd rfl (det_move rfl) ?_
    refine JL_pd rfl (det_move rfl) ?_
    refine JL_pd rfl (det_move rfl) ?_
    refine JL_dt rfl (det_indexAddr rfl rfl (by first | rfl | omega) (by first | assumption | omega | decide) Tryz.runUnderlying63 Tryz.sizeOf141) ?_
    refine JL_dt rfl (det_loadEA rfl (by first | assumption | omega | decide) Tryz.isAgg141 Tryz.sizeOf141 rfl rfl rfl) ?_
    -- stop: op  5 t16 := (call (Call (value t11) (t15) (141)))   <0 4>   109
    refine JL_step rfl rfl rfl (jo_callv rfl rfl eF rfl (hF xs[i] (List.getElem_mem hi2))) fun _ => ?_
    refine JL_nil ?_
    refine JE_seq ?_
    -- stop: cond
    refine JC_cond rfl (fun h2 => ?_) (fun h2 => ?_)
    · refine JC_seq ?_
      refine JC_region ?_
      refine JL_pd rfl (det_move rfl) ?_
      refine JL_pd rfl (det_assign rfl) ?_
      refine JL_nil ?_
      refine JE_seq ?_
      refine JC_ret ?_
      refine JE_block_ret ?_
      refine JE_seq_ret ?_
      refine JE_then_ret ?_
      refine JE_block_ret ?_
      refine JE_seq_ret ?_
      -- stop: out
      refine JE_out (.inl rfl) () (results1 Tryz.results229 (res_tmp rfl)) (by rw [idxOf_hit hi2 hno h2]) (List.Perm.refl _) (fun _ _ => trivial)
    · refine JC_skip ?_
      refine JE_block ?_
      refine JE_seq ?_
      refine JC_region ?_
      refine JL_pd rfl (det_add rfl rfl ⟨by omega, by omega⟩) ?_
      refine JL_pd rfl (det_move rfl) ?_
      refine JL_nil ?_
      -- stop: end
      refine JE_roundF hK (i + 1) ⟨by omega, by rw [List.take_succ_eq_append_getElem hi2, List.any_append, hno]; simp [h2]⟩ (by omega) (stsub_consI rfl (by omega) stsub_nil) ht_nil
  · refine JC_exit ?_
    refine JE_seq_exit ?_
    refine JE_then_exit ?_
    refine JE_block_here ?_
    refine JE_seq ?_
    refine JC_seq ?_
    refine JC_region ?_
    refine JL_pd rfl (det_assign rfl) ?_
    refine JL_nil ?_
    refine JE_seq ?_
    refine JC_ret ?_
    -- stop: out
    obtain rfl : i = xs.length := by omega
    rw [List.take_length] at hno
    refine JE_out (.inl rfl) () (results1 Tryz.results229 (res_tmp rfl)) (by rw [idxOf_none hno]) (List.Perm.refl _) (fun _ _ => trivial)
theorem containsFuncL_j (p : Lk → Bool) (F : Nat) (fs cs : List Value) (Kf : World → Prop) (eF : ∀ args w, (callFunc F args).run Tryz.prog w = .ok (.enter F args) w) (a : Option Addr) (cap : Nat) (xs : List Lk) (hF : ∀ x ∈ xs, Cv Tryz.prog F (fs ++ [.agg #[I x.f, I x.t, .bool x.s]] ++ cs) Kf (.bool (p x))) (hl : xs.length ≤ 9223372036854775807) :
    Cv Tryz.prog 204 [.slice a xs.length cap, .func (.func F) fs.toArray cs.toArray] (KAnd (KSl a xs.length cap encLk xs) Kf) (.bool (xs.any p)) := by
  refine Cx_of Tryz.func204 rfl Tryz.ntmps204 rfl fun w0 M0 => ?_
  refine JC_seq ?_
  refine JC_region ?_
  refine JL_pd rfl (det_assign rfl) ?_
  refine JL_nil ?_
  refine JE_seq ?_
  refine JC_seq ?_
  refine JC_region ?_
  refine JL_pd rfl (det_move rfl) ?_
  refine JL_pd rfl (det_move rfl) ?_
  -- stop: op  2 t7 := (call (Call (value f229) (t5 t6) (63 265)))   <0 1>   125
  refine JL_step rfl rfl rfl (jo_callv rfl rfl Tryz.call229 rfl (indexFuncL_j p F fs cs Kf eF a cap xs hF hl)) fun _ => ?_
  refine JL_pd rfl (det_geq rfl rfl) ?_
  refine JL_pd rfl (det_assign rfl) ?_
  refine JL_nil ?_
  refine JE_seq ?_
  refine JC_ret ?_
  -- stop: out
  refine JE_out (.inl rfl) () (results1 Tryz.results204 (res_tmp rfl)) (by rw [show decide ((0 : Int) ≤ idxOf p xs) = xs.any p from idxOf_any]) (List.Perm.refl _) (fun _ _ => trivial)
theorem allL_1 (p : Lk → Bool) (F : Nat) (fs cs : List Value) (Kf : World → Prop) (eF : ∀ args w, (callFunc F args).run Tryz.prog w = .ok (.enter F args) w) (x : Lk) (hF : Cv Tryz.prog F (fs ++ [.agg #[I x.f, I x.t, .bool x.s]] ++ cs) Kf (.bool (p x))) (b : Nat) :
    Cv Tryz.prog 205 [.agg #[I x.f, I x.t, .bool x.s], .pointer (some ⟨b, 0, none⟩)] (KAnd (KBox b [.func (.func F) fs.toArray cs.toArray]) Kf) (.bool (!p x)) := by
  refine Cx_of Tryz.func205 rfl Tryz.ntmps205 rfl fun w0 M0 => ?_
  refine JC_seq ?_
  refine JC_region ?_
  refine JL_step rfl rfl rfl (jo_box rfl rfl) fun b2 => ?_
  refine JL_pd rfl (det_assign rfl) ?_
  refine JL_nil ?_
  refine JE_seq ?_
  refine JC_seq ?_
  refine JC_region ?_
  refine JL_dt rfl (det_loadK rfl Tryz.isAgg265 rfl) ?_
  refine JL_dt rfl (det_loadKA rfl Tryz.isAgg141 Tryz.sizeOf141 rfl rfl) ?_
  -- stop: op  2 t6 := (call (Call (value t4) (t5) (141)))   <0 1>   43
  refine JL_step rfl rfl rfl (jo_callv rfl rfl eF rfl (hF)) fun _ => ?_
  refine JL_pd rfl (det_not rfl) ?_
  refine JL_pd rfl (det_assign rfl) ?_
  refine JL_nil ?_
  refine JE_seq ?_
  refine JC_ret ?_
  -- stop: out
  refine JE_out (.inl rfl) () (results1 Tryz.results205 (res_tmp rfl)) rfl (List.Perm.refl _) (fun _ _ => trivial)
theorem allL_j (p : Lk → Bool) (F : Nat) (fs cs : List Value) (Kf : World → Prop) (eF : ∀ args w, (callFunc F args).run Tryz.prog w = .ok (.enter F args) w) (a : Option Addr) (cap : Nat) (xs : List Lk) (hF : ∀ x ∈ xs, Cv Tryz.prog F (fs ++ [.agg #[I x.f, I x.t, .bool x.s]] ++ cs) Kf (.bool (p x))) (hl : xs.length ≤ 9223372036854775807) :
    Cv Tryz.prog 149 [.slice a xs.length cap, .func (.func F) fs.toArray cs.toArray] (KAnd (KSl a xs.length cap encLk xs) Kf) (.bool (xs.all p)) := by
  have hcf := fun b3 : Nat => containsFuncL_j (fun x => !p x) 205 [] [.pointer (some ⟨b3, 0, none⟩)] _ Tryz.call205 a cap xs (fun x hx => allL_1 p F fs cs Kf eF x (hF x hx) b3) hl
  refine Cx_of Tryz.func149 rfl Tryz.ntmps149 rfl fun w0 M0 => ?_
  refine JC_seq ?_
  refine JC_region ?_
  refine JL_step rfl rfl rfl (jo_box rfl rfl) fun b3 => ?_
  refine JL_pd rfl (det_assign rfl) ?_
  refine JL_nil ?_
  refine JE_seq ?_
  refine JC_seq ?_
  refine JC_region ?_
  refine JL_pd rfl (det_move rfl) ?_
  refine JL_pd rfl (det_makeFuncE rfl rfl) ?_
  -- stop: op  2 t7 := (call (Call (value f204) (t5 t6) (63 265)))   <0 1>   43
  refine JL_keep b3 noFp ?_
  refine JL_step rfl rfl rfl (jo_callv rfl rfl Tryz.call204 rfl (hcf b3)) fun _ => ?_
  refine JL_pd rfl (det_not rfl) ?_
  refine JL_pd rfl (det_assign rfl) ?_
  refine JL_nil ?_
  refine JE_seq ?_
  refine JC_ret ?_
  -- stop: out
  refine JE_out (.inl rfl) () (results1 Tryz.results149 (res_tmp rfl)) (by simp [List.all_eq_not_any_not]) (List.Perm.refl _) (fun _ _ => trivial)
end Go.Proofs.YthpkgabckklojaaGreat.Rk
