/- Own texts, laid together: C1 C2 C3 C4 C5 C6 C7 C8. Nothing is asked. -/
import Derived.Test.YtgbfjcgjcnndpaaB3
import Derived.Test.YtgbfjcgjcnndpaaJF
set_option linter.unusedSimpArgs false
set_option linter.unusedVariables false
/- Plain words for cycle: machines, stands, what comes next, what can be. Nothing is asked. -/
namespace Go.Proofs.Ytgbfjcgjcnndpaa
open Go.RowKit Go.Shelf

structure Sp where
  fr : Int
  to_ : Int
  sg : Int
deriving DecidableEq
structure Lk where
  sg : Int
  at_ : Int
deriving DecidableEq
structure Sd where
  st : Int
  sp : Int
deriving DecidableEq
structure Mc where
  states : Int
  steps : List Sp
  running : List Int
  locks : List Lk
instance : Inhabited Sd := ⟨⟨0, 0⟩⟩
instance : Inhabited Sp := ⟨⟨0, 0, 0⟩⟩
instance : Inhabited Lk := ⟨⟨0, 0⟩⟩
def encSp (s : Sp) : List Value := [I s.fr, I s.to_, I s.sg]
def encLk (l : Lk) : List Value := [I l.sg, I l.at_]
def encSd (s : Sd) : List Value := [I s.st, I s.sp]
def encI (n : Int) : List Value := [I n]
instance : Rec encSp 3 := ⟨fun _ => rfl, by decide⟩
instance : Rec encLk 2 := ⟨fun _ => rfl, by decide⟩
instance : Rec encSd 2 := ⟨fun _ => rfl, by decide⟩
instance : Rec encI 1 := ⟨fun _ => rfl, by decide⟩
theorem Sd.ext' {a b : Sd} : a = b ↔ a.st = b.st ∧ a.sp = b.sp := by cases a; cases b; simp
theorem Lk.ext' {a b : Lk} : a = b ↔ a.sg = b.sg ∧ a.at_ = b.at_ := by cases a; cases b; simp

def inI (n lo hi : Int) : Bool := decide (lo ≤ n ∧ n ≤ hi)
def okStep (m : Mc) (s : Sp) : Bool := inI s.fr 0 (m.states - 1) && inI s.to_ 0 (m.states - 1) && inI s.sg 0 5
def okLock (m : Mc) (l : Lk) : Bool := if l.sg = 6 ∨ l.sg = 7 then inI l.at_ 0 (m.states - 1) else inI l.sg 0 5 && inI l.at_ 0 2
def rising : List Int → Bool
  | a :: b :: r => decide (a < b) && rising (b :: r)
  | _ => true
def fault (m : Mc) : Int :=
  if 24 < m.steps.length ∨ 40 < m.locks.length then 3
  else if (inI m.states 1 8 && m.steps.all (okStep m) && m.running.all (fun n => inI n 0 (m.states - 1)) && m.locks.all (okLock m) && rising m.running) = true then 0 else 1
theorem rising_get : ∀ {l : List Int}, rising l = true → ∀ (i : Nat) (h : i + 1 < l.length), l[i] < l[i + 1]
  | [], _, i, h => by simp at h
  | [_], _, i, h => by simp at h
  | a :: b :: r, hr, 0, h => by
    simp only [rising, Bool.and_eq_true, decide_eq_true_eq] at hr
    exact hr.1
  | a :: b :: r, hr, i + 1, h => by
    simp only [rising, Bool.and_eq_true, decide_eq_true_eq] at hr
    exact rising_get hr.2 i (by simpa using h)
theorem rising_iff {l : List Int} : rising l = true ↔ ∀ (i : Nat) (h : i + 1 < l.length), l[i] < l[i + 1] := by
  refine ⟨rising_get, fun h => ?_⟩
  match l with
  | [] => rfl
  | [_] => rfl
  | a :: b :: r =>
    simp only [rising, Bool.and_eq_true, decide_eq_true_eq]
    exact ⟨h 0 (by simp), rising_iff.2 fun i hi => h (i + 1) (by simpa using hi)⟩
termination_by l.length
theorem rising_sum : ∀ {l : List Int} {lo : Int}, rising l = true → (∀ x ∈ l, lo ≤ x) → ∀ (i : Nat) (h : i < l.length), lo + i ≤ l[i]
  | l, lo, hr, hlo, 0, h => by have := hlo _ (List.getElem_mem h); simpa using this
  | l, lo, hr, hlo, i + 1, h => by
    have h1 := rising_sum hr hlo i (by omega)
    have h2 := rising_get hr i h
    omega
structure Valid (m : Mc) : Prop where
  ns : m.steps.length ≤ 24
  nl : m.locks.length ≤ 40
  s1 : 1 ≤ m.states
  s2 : m.states ≤ 8
  st : ∀ s ∈ m.steps, 0 ≤ s.fr ∧ s.fr < m.states ∧ 0 ≤ s.to_ ∧ s.to_ < m.states ∧ 0 ≤ s.sg ∧ s.sg ≤ 5
  run : ∀ n ∈ m.running, 0 ≤ n ∧ n < m.states
  lk : ∀ l ∈ m.locks, okLock m l = true
  nr : m.running.length ≤ 8
theorem valid_of {m : Mc} (h : fault m = 0) : Valid m := by
  unfold fault at h
  split at h
  · omega
  split at h
  · rename_i h1 h2
    simp only [Bool.and_eq_true, inI, decide_eq_true_eq, List.all_eq_true, okStep] at h2
    obtain ⟨⟨⟨⟨a, b⟩, c⟩, d⟩, e⟩ := h2
    have hrun : ∀ n ∈ m.running, 0 ≤ n ∧ n < m.states := fun n hn => by have := c n hn; omega
    refine ⟨by omega, by omega, a.1, a.2, fun s hs => by have := b s hs; omega, hrun, d, ?_⟩
    by_cases h9 : m.running.length ≤ 8
    · exact h9
    · have h3 := rising_sum (lo := 0) e (fun x hx => (hrun x hx).1) 8 (by omega)
      have h4 := hrun _ (List.getElem_mem (l := m.running) (n := 8) (by omega))
      omega
  · omega

/-- Where a lock of a signal stands. -/
def lockAt (s : Sd) (g : Int) : Lk := if g = 6 ∨ g = 7 then ⟨g, s.st⟩ else ⟨g, s.sp⟩
def stepTo (m : Mc) (s : Sd) (g : Int) : List Sd := (m.steps.filter fun x => decide (x.fr = s.st) && decide (x.sg = g)).map fun x => ⟨x.to_, s.sp⟩
def moves (m : Mc) (s : Sd) (g : Int) : List Sd :=
  if g = 6 then (if s.sp = 2 then [] else [⟨s.st, s.sp + 1⟩]) else if g = 7 then (if s.sp = 0 then [] else [⟨s.st, s.sp - 1⟩]) else stepTo m s g
/-- What comes behind a signal, with some locks. -/
def nextL (m : Mc) (ls : List Lk) (s : Sd) (g : Int) : List Sd := if lockAt s g ∈ ls then [] else moves m s g
def InM (m : Mc) (s : Sd) : Prop := 0 ≤ s.st ∧ s.st < m.states ∧ 0 ≤ s.sp ∧ s.sp ≤ 2
theorem moves_in {m : Mc} (V : Valid m) {s t : Sd} {g : Int} (h : InM m s) (ht : t ∈ moves m s g) : InM m t := by
  obtain ⟨a, b, c, d⟩ := h
  unfold moves at ht
  split at ht
  · split at ht
    · cases ht
    · rw [List.mem_singleton] at ht; subst ht; exact ⟨a, b, by show 0 ≤ s.sp + 1; omega, by show s.sp + 1 ≤ 2; omega⟩
  split at ht
  · split at ht
    · cases ht
    · rw [List.mem_singleton] at ht; subst ht; exact ⟨a, b, by show 0 ≤ s.sp - 1; omega, by show s.sp - 1 ≤ 2; omega⟩
  · simp only [stepTo, List.mem_map, List.mem_filter] at ht
    obtain ⟨x, ⟨hx, _⟩, rfl⟩ := ht
    have := V.st x hx
    exact ⟨this.2.2.1, this.2.2.2.1, c, d⟩
theorem next_in {m : Mc} (V : Valid m) {ls : List Lk} {s t : Sd} {g : Int} (h : InM m s) (ht : t ∈ nextL m ls s g) : InM m t := by
  unfold nextL at ht
  split at ht
  · cases ht
  · exact moves_in V h ht
/-- One signal further. -/
def Stp (m : Mc) (ls : List Lk) (s t : Sd) : Prop := ∃ g : Nat, g < 8 ∧ t ∈ nextL m ls s (g : Int)
/-- What can be. -/
inductive Rch (m : Mc) (ls : List Lk) : Sd → Prop
  | zero : Rch m ls ⟨0, 0⟩
  | step {s t : Sd} : Rch m ls s → Stp m ls s t → Rch m ls t
theorem zero_in {m : Mc} (V : Valid m) : InM m ⟨0, 0⟩ := by
  have := V.s1
  exact ⟨Int.le_refl 0, by show (0 : Int) < m.states; omega, Int.le_refl 0, by decide⟩
theorem Rch.inM {m : Mc} {ls : List Lk} (V : Valid m) {s : Sd} (h : Rch m ls s) : InM m s := by
  induction h with
  | zero => exact zero_in V
  | step _ h ih => obtain ⟨g, _, h⟩ := h; exact next_in V ih h

/-! All stands, by number. -/
def sdOf (i : Nat) : Sd := ⟨((i / 3 : Nat) : Int), ((i % 3 : Nat) : Int)⟩
def ix (s : Sd) : Nat := (s.st * 3 + s.sp).toNat
def all24 : List Sd := (List.range 24).map sdOf
theorem ix_sd (i : Nat) : ix (sdOf i) = i := by unfold ix sdOf; simp only; omega
theorem sd_ix {s : Sd} (h : 0 ≤ s.st) (h1 : 0 ≤ s.sp) (h2 : s.sp ≤ 2) : sdOf (ix s) = s := by
  unfold ix sdOf; rw [Sd.ext']; constructor <;> simp only <;> omega
theorem ix_lt {s : Sd} (h : 0 ≤ s.st) (h0 : s.st < 8) (h1 : 0 ≤ s.sp) (h2 : s.sp ≤ 2) : ix s < 24 := by unfold ix; omega
theorem mem_all {s : Sd} : s ∈ all24 ↔ (0 ≤ s.st ∧ s.st < 8 ∧ 0 ≤ s.sp ∧ s.sp ≤ 2) := by
  unfold all24
  rw [List.mem_map]
  constructor
  · rintro ⟨i, hi, rfl⟩
    have := List.mem_range.1 hi
    unfold sdOf; simp only; omega
  · rintro ⟨a, b, c, d⟩
    exact ⟨ix s, List.mem_range.2 (ix_lt a b c d), sd_ix a c d⟩
theorem InM.all {m : Mc} (V : Valid m) {s : Sd} (h : InM m s) : s ∈ all24 := by
  have := V.s2
  obtain ⟨a, b, c, d⟩ := h
  exact mem_all.2 ⟨a, by omega, c, d⟩
theorem len_all : all24.length = 24 := rfl
theorem nodup_all : all24.Nodup := by decide +kernel

/-! What can be, worked out. -/
def stpB (m : Mc) (ls : List Lk) (s t : Sd) : Bool := (List.range 8).any fun g => decide (t ∈ nextL m ls s (g : Int))
theorem stpB_iff {m : Mc} {ls : List Lk} {s t : Sd} : stpB m ls s t = true ↔ Stp m ls s t := by
  simp only [stpB, List.any_eq_true, List.mem_range, decide_eq_true_eq, Stp]
def growL (m : Mc) (ls : List Lk) (L : List Sd) : List Sd := all24.filter fun t => decide (t ∈ L) || L.any fun s => stpB m ls s t
def levL (m : Mc) (ls : List Lk) : Nat → List Sd
  | 0 => all24.filter fun t => decide (t = ⟨0, 0⟩)
  | n + 1 => growL m ls (levL m ls n)
def reachL (m : Mc) (ls : List Lk) : List Sd := levL m ls 24
theorem levL_form (m : Mc) (ls : List Lk) (n : Nat) : ∃ p : Sd → Bool, levL m ls n = all24.filter p := by
  cases n with
  | zero => exact ⟨_, rfl⟩
  | succ n => exact ⟨fun t => decide (t ∈ levL m ls n) || (levL m ls n).any fun s => stpB m ls s t, rfl⟩
theorem levL_all {m : Mc} {ls : List Lk} {n : Nat} {t : Sd} (h : t ∈ levL m ls n) : t ∈ all24 := by
  obtain ⟨p, hp⟩ := levL_form m ls n
  rw [hp] at h
  exact (List.mem_filter.1 h).1
theorem levL_mono {m : Mc} {ls : List Lk} {n : Nat} {t : Sd} (h : t ∈ levL m ls n) : t ∈ levL m ls (n + 1) := by
  show t ∈ growL m ls _
  exact List.mem_filter.2 ⟨levL_all h, by simp [h]⟩
theorem filter_sub {α : Type} {l : List α} {p q : α → Bool} (h : ∀ x, p x = true → q x = true) : (l.filter p).Sublist (l.filter q) := by
  induction l with
  | nil => exact List.Sublist.refl _
  | cons a l ih =>
    simp only [List.filter_cons]
    cases hp : p a
    · cases hq : q a
      · simpa using ih
      · simpa using ih.cons a
    · rw [h a hp]; simpa using ih.cons_cons a
theorem levL_sub (m : Mc) (ls : List Lk) (n : Nat) : (levL m ls n).Sublist (levL m ls (n + 1)) := by
  have key : ∀ (A B : List Sd), (∃ p, A = all24.filter p) → (∃ q, B = all24.filter q) → (∀ t ∈ A, t ∈ B) → A.Sublist B := by
    rintro _ _ ⟨p, rfl⟩ ⟨q, rfl⟩ h
    have e : all24.filter p = (all24.filter q).filter p := by
      rw [List.filter_filter]
      refine List.filter_congr fun x hx => ?_
      cases hp : p x
      · simp
      · have := (List.mem_filter.1 (h x (List.mem_filter.2 ⟨hx, hp⟩))).2
        simp [this]
    rw [e]
    exact List.filter_sublist
  exact key _ _ (levL_form m ls n) (levL_form m ls (n + 1)) fun t h => levL_mono h
theorem levL_fix {m : Mc} {ls : List Lk} {n : Nat} (h : levL m ls (n + 1) = levL m ls n) : ∀ k, levL m ls (n + k) = levL m ls n
  | 0 => rfl
  | k + 1 => by
    show growL m ls (levL m ls (n + k)) = _
    rw [levL_fix h k]; exact h
theorem levL_len (m : Mc) (ls : List Lk) : ∀ n, (∀ k, k < n → levL m ls (k + 1) ≠ levL m ls k) → n + 1 ≤ (levL m ls n).length
  | 0, _ => by show 1 ≤ (all24.filter fun t => decide (t = ⟨0, 0⟩)).length; decide +kernel
  | n + 1, h => by
    have ih := levL_len m ls n fun k hk => h k (by omega)
    have h1 := (levL_sub m ls n).length_le
    by_cases e : (levL m ls n).length = (levL m ls (n + 1)).length
    · exact absurd ((levL_sub m ls n).eq_of_length e).symm (h n (by omega))
    · omega
theorem levL_stable (m : Mc) (ls : List Lk) : levL m ls 25 = levL m ls 24 := by
  by_cases h : ∃ k, k < 24 ∧ levL m ls (k + 1) = levL m ls k
  · obtain ⟨k, hk, e⟩ := h
    have h1 := levL_fix e (24 - k)
    have h2 := levL_fix e (25 - k)
    rw [show k + (24 - k) = 24 by omega] at h1
    rw [show k + (25 - k) = 25 by omega] at h2
    rw [h1, h2]
  · have h2 := levL_len m ls 24 fun k hk e => h ⟨k, hk, e⟩
    have h1 : (levL m ls 24).length ≤ all24.length := by
      obtain ⟨p, hp⟩ := levL_form m ls 24
      rw [hp]; exact List.length_filter_le _ _
    rw [len_all] at h1
    omega
theorem mem_reachL {m : Mc} (V : Valid m) {ls : List Lk} {t : Sd} : t ∈ reachL m ls ↔ Rch m ls t := by
  constructor
  · have key : ∀ n t, t ∈ levL m ls n → Rch m ls t := by
      intro n
      induction n with
      | zero =>
        intro t h
        have := (List.mem_filter.1 h).2
        rw [decide_eq_true_eq] at this
        rw [this]; exact .zero
      | succ n ih =>
        intro t h
        have := (List.mem_filter.1 h).2
        rw [Bool.or_eq_true, decide_eq_true_eq, List.any_eq_true] at this
        rcases this with h | ⟨s, hs, h⟩
        · exact ih t h
        · exact .step (ih s hs) (stpB_iff.1 h)
    exact key 24 t
  · intro h
    have hin := fun (s : Sd) (h : Rch m ls s) => (h.inM V).all V
    induction h with
    | zero =>
      have : ∀ n, (⟨0, 0⟩ : Sd) ∈ levL m ls n := fun n => by
        induction n with
        | zero => show _ ∈ all24.filter _; exact List.mem_filter.2 ⟨by decide +kernel, by simp⟩
        | succ n ih => exact levL_mono ih
      exact this 24
    | step hs h ih =>
      show _ ∈ levL m ls 24
      rw [← levL_stable]
      exact List.mem_filter.2 ⟨hin _ (.step hs h), by rw [Bool.or_eq_true, List.any_eq_true]; exact .inr ⟨_, ih, stpB_iff.2 h⟩⟩
end Go.Proofs.Ytgbfjcgjcnndpaa

/- Walks of cycle: numbers, and what all of a list are. -/
namespace Go.Proofs.Ytgbfjcgjcnndpaa
open Go.RowKit Go.Shelf

/-- Where a machine's lists lie. -/
structure MA where
  sa : Option Addr
  ra : Option Addr
  ka : Option Addr
  sc : Nat
  rc : Nat
  kc : Nat
abbrev KMc (m : Mc) (a : MA) : World → Prop := KAnd (KSl a.sa m.steps.length a.sc encSp m.steps) (KAnd (KSl a.ra m.running.length a.rc encI m.running) (KSl a.ka m.locks.length a.kc encLk m.locks))
theorem take_snoc {α : Type} {l : List α} {i : Nat} (h : i < l.length) : l.take (i + 1) = l.take i ++ [l[i]] := List.take_succ_eq_append_getElem h
theorem within_j (n lo hi : Int) : Cv Try.prog 51 [I n, I lo, I hi] KTrue (.bool (inI n lo hi)) := by
  refine Cx_of Try.func51 rfl Try.ntmps51 rfl fun w0 M0 => ?_
  refine JC_seq ?_
  refine JC_region ?_
  refine JL_pd rfl (det_assign rfl) ?_
  refine JL_nil ?_
  refine JE_seq ?_
  refine JC_seq ?_
  refine JC_region ?_
  refine JL_pd rfl (det_move rfl) ?_
  refine JL_pd rfl (det_move rfl) ?_
  refine JL_pd rfl (det_leq rfl rfl) ?_
  refine JL_pd rfl (det_move rfl) ?_
  refine JL_split (d0 := 10) rfl (fun h1 => ?_) (fun h1 => ?_)
  · refine JL_guard rfl rfl h1 ?_
    refine JL_pd rfl (det_move rfl) ?_
    refine JL_guard rfl rfl h1 ?_
    refine JL_pd rfl (det_move rfl) ?_
    refine JL_guard rfl rfl h1 ?_
    refine JL_pd rfl (det_leq rfl rfl) ?_
    refine JL_pd rfl (det_pick_t rfl h1 rfl) ?_
    refine JL_pd rfl (det_assign rfl) ?_
    refine JL_nil ?_
    refine JE_seq ?_
    refine JC_ret ?_
    refine JE_out (.inl rfl) () (results1 Try.results51 (res_tmp rfl)) ?_ (List.Perm.refl _) (fun _ _ => trivial)
    (simp_all [inI])
    (try omega)
  · refine JL_skip rfl rfl h1 rfl ?_
    refine JL_skip rfl rfl h1 rfl ?_
    refine JL_skip rfl rfl h1 rfl ?_
    refine JL_pd rfl (det_pick_f rfl h1 rfl) ?_
    refine JL_pd rfl (det_assign rfl) ?_
    refine JL_nil ?_
    refine JE_seq ?_
    refine JC_ret ?_
    refine JE_out (.inl rfl) () (results1 Try.results51 (res_tmp rfl)) ?_ (List.Perm.refl _) (fun _ _ => trivial)
    (simp_all [inI])
    (try omega)

set_option maxRecDepth 100000 in
theorem indexFuncSp_j (p : Sp → Bool) (F : Nat) (fs cs : List Value) (Kf : World → Prop) (eF : ∀ args w, (callFunc F args).run Try.prog w = .ok (.enter F args) w) (hF : ∀ x : Sp, Cv Try.prog F (fs ++ [.agg #[I x.fr, I x.to_, I x.sg]] ++ cs) Kf (.bool (p x))) (a : Option Addr) (cap : Nat) (xs : List Sp) (hl : xs.length ≤ 9223372036854775807) :
    Cv Try.prog 96 [.slice a xs.length cap, .func (.func F) fs.toArray cs.toArray] (KAnd (KSl a xs.length cap encSp xs) Kf) (I (idxOf p xs)) := by
  refine Cx_of Try.func96 rfl Try.ntmps96 rfl fun w0 M0 => ?_
  refine JC_seq ?_
  refine JC_region ?_
  refine JL_pd rfl (det_assign rfl) ?_
  refine JL_nil ?_
  refine JE_seq ?_
  refine JC_seq ?_
  refine JC_seq ?_
  refine JC_region ?_
  refine JL_pd rfl (det_move rfl) ?_
  refine JL_pd rfl (det_len rfl Try.runUnderlying31) ?_
  refine JL_pd rfl (det_move rfl) ?_
  refine JL_nil ?_
  refine JE_seq ?_
  refine JC_block ?_
  -- stop: loop
  refine JC_loopF (γ := Nat) (fun i => i ≤ xs.length ∧ (xs.take i).any p = false) (fun i => [(8, I i)]) (fun _ => []) (fun i => xs.length - i) 0 ⟨Nat.zero_le _, rfl⟩ (stsub_consI rfl rfl stsub_nil) ht_nil ?_
  rintro i ⟨hi, hno⟩ K hK
  dsimp only [List.cons_append, List.nil_append]
  refine JC_seq ?_
  refine JC_region ?_
  refine JL_pd rfl (det_lss rfl rfl) ?_
  refine JL_nil ?_
  refine JE_seq ?_
  refine JC_seq ?_
  -- stop: cond
  refine JC_if rfl (fun h1 => ?_) (fun h1 => ?_)
  · have hi2 : i < xs.length := by omega
    refine JC_skip ?_
    refine JE_seq ?_
    refine JC_seq ?_
    refine JC_block ?_
    refine JC_seq ?_
    refine JC_region ?_
    refine JL_pd rfl (det_move rfl) ?_
    refine JL_pd rfl (det_assign rfl) ?_
    refine JL_nil ?_
    refine JE_seq ?_
    refine JC_seq ?_
    refine JC_region ?_
    refine JL_pd rfl (det_move rfl) ?_
    refine JL_pd rfl (det_move rfl) ?_
    refine JL_pd rfl (det_move rfl) ?_
    refine JL_dt rfl (det_indexAddr rfl rfl (by first | rfl | omega) (by first | assumption | omega | decide) Try.runUnderlying31 Try.sizeOf94) ?_
    refine JL_dt rfl (det_loadEA rfl (by first | assumption | omega | decide) Try.isAgg94 Try.sizeOf94 rfl rfl rfl) ?_
    -- stop: op  5 t16 := (call (Call (value t11) (t15) (94)))   <0 4>   109
    refine JL_step rfl rfl rfl (jo_callv rfl rfl eF rfl (hF xs[i])) fun _ => ?_
    refine JL_nil ?_
    refine JE_seq ?_
    -- stop: cond
    refine JC_cond rfl (fun h2 => ?_) (fun h2 => ?_)
    · refine JC_seq ?_
      refine JC_region ?_
      refine JL_pd rfl (det_move rfl) ?_
      refine JL_pd rfl (det_assign rfl) ?_
      refine JL_nil ?_
      refine JE_seq ?_
      refine JC_ret ?_
      refine JE_block_ret ?_
      refine JE_seq_ret ?_
      refine JE_then_ret ?_
      refine JE_block_ret ?_
      refine JE_seq_ret ?_
      -- stop: out
      refine JE_out (.inl rfl) () (results1 Try.results96 (res_tmp rfl)) (by rw [idxOf_hit hi2 hno h2]) (List.Perm.refl _) (fun _ _ => trivial)
    · refine JC_skip ?_
      refine JE_block ?_
      refine JE_seq ?_
      refine JC_region ?_
      refine JL_pd rfl (det_add rfl rfl ⟨by omega, by omega⟩) ?_
      refine JL_pd rfl (det_move rfl) ?_
      refine JL_nil ?_
      -- stop: end
      refine JE_roundF hK (i + 1) ⟨by omega, by rw [take_snoc hi2, List.any_append, hno]; simp [h2]⟩ (by omega) (stsub_consI rfl (by omega) stsub_nil) ht_nil
  · refine JC_exit ?_
    refine JE_seq_exit ?_
    refine JE_then_exit ?_
    refine JE_block_here ?_
    refine JE_seq ?_
    refine JC_seq ?_
    refine JC_region ?_
    refine JL_pd rfl (det_assign rfl) ?_
    refine JL_nil ?_
    refine JE_seq ?_
    refine JC_ret ?_
    -- stop: out
    obtain rfl : i = xs.length := by omega
    rw [List.take_length] at hno
    refine JE_out (.inl rfl) () (results1 Try.results96 (res_tmp rfl)) (by rw [idxOf_none hno]) (List.Perm.refl _) (fun _ _ => trivial)
theorem containsFuncSp_j (p : Sp → Bool) (F : Nat) (fs cs : List Value) (Kf : World → Prop) (eF : ∀ args w, (callFunc F args).run Try.prog w = .ok (.enter F args) w) (hF : ∀ x : Sp, Cv Try.prog F (fs ++ [.agg #[I x.fr, I x.to_, I x.sg]] ++ cs) Kf (.bool (p x))) (a : Option Addr) (cap : Nat) (xs : List Sp) (hl : xs.length ≤ 9223372036854775807) :
    Cv Try.prog 78 [.slice a xs.length cap, .func (.func F) fs.toArray cs.toArray] (KAnd (KSl a xs.length cap encSp xs) Kf) (.bool (xs.any p)) := by
  refine Cx_of Try.func78 rfl Try.ntmps78 rfl fun w0 M0 => ?_
  refine JC_seq ?_
  refine JC_region ?_
  refine JL_pd rfl (det_assign rfl) ?_
  refine JL_nil ?_
  refine JE_seq ?_
  refine JC_seq ?_
  refine JC_region ?_
  refine JL_pd rfl (det_move rfl) ?_
  refine JL_pd rfl (det_move rfl) ?_
  -- stop: op  2 t7 := (call (Call (value f96) (t5 t6) (31 97)))   <0 1>   125
  refine JL_step rfl rfl rfl (jo_callv rfl rfl Try.call96 rfl (indexFuncSp_j p F fs cs Kf eF hF a cap xs hl)) fun _ => ?_
  refine JL_pd rfl (det_geq rfl rfl) ?_
  refine JL_pd rfl (det_assign rfl) ?_
  refine JL_nil ?_
  refine JE_seq ?_
  refine JC_ret ?_
  -- stop: out
  refine JE_out (.inl rfl) () (results1 Try.results78 (res_tmp rfl)) (by rw [show decide ((0 : Int) ≤ idxOf p xs) = xs.any p from idxOf_any]) (List.Perm.refl _) (fun _ _ => trivial)
theorem allSp_1 (p : Sp → Bool) (F : Nat) (fs cs : List Value) (Kf : World → Prop) (eF : ∀ args w, (callFunc F args).run Try.prog w = .ok (.enter F args) w) (hF : ∀ x : Sp, Cv Try.prog F (fs ++ [.agg #[I x.fr, I x.to_, I x.sg]] ++ cs) Kf (.bool (p x))) (b : Nat) (x : Sp) :
    Cv Try.prog 79 [.agg #[I x.fr, I x.to_, I x.sg], .pointer (some ⟨b, 0, none⟩)] (KAnd (KBox b [.func (.func F) fs.toArray cs.toArray]) Kf) (.bool (!p x)) := by
  refine Cx_of Try.func79 rfl Try.ntmps79 rfl fun w0 M0 => ?_
  refine JC_seq ?_
  refine JC_region ?_
  refine JL_step rfl rfl rfl (jo_box rfl rfl) fun b2 => ?_
  refine JL_pd rfl (det_assign rfl) ?_
  refine JL_nil ?_
  refine JE_seq ?_
  refine JC_seq ?_
  refine JC_region ?_
  refine JL_dt rfl (det_loadK rfl Try.isAgg97 rfl) ?_
  refine JL_dt rfl (det_loadKA rfl Try.isAgg94 Try.sizeOf94 rfl rfl) ?_
  -- stop: op  2 t6 := (call (Call (value t4) (t5) (94)))   <0 1>   45
  refine JL_step rfl rfl rfl (jo_callv rfl rfl eF rfl (hF x)) fun _ => ?_
  refine JL_pd rfl (det_not rfl) ?_
  refine JL_pd rfl (det_assign rfl) ?_
  refine JL_nil ?_
  refine JE_seq ?_
  refine JC_ret ?_
  -- stop: out
  refine JE_out (.inl rfl) () (results1 Try.results79 (res_tmp rfl)) rfl (List.Perm.refl _) (fun _ _ => trivial)
theorem allSp_j (p : Sp → Bool) (F : Nat) (fs cs : List Value) (Kf : World → Prop) (eF : ∀ args w, (callFunc F args).run Try.prog w = .ok (.enter F args) w) (hF : ∀ x : Sp, Cv Try.prog F (fs ++ [.agg #[I x.fr, I x.to_, I x.sg]] ++ cs) Kf (.bool (p x))) (a : Option Addr) (cap : Nat) (xs : List Sp) (hl : xs.length ≤ 9223372036854775807) :
    Cv Try.prog 52 [.slice a xs.length cap, .func (.func F) fs.toArray cs.toArray] (KAnd (KSl a xs.length cap encSp xs) Kf) (.bool (xs.all p)) := by
  have hcf := fun b3 : Nat => containsFuncSp_j (fun x => !p x) 79 [] [.pointer (some ⟨b3, 0, none⟩)] _ Try.call79 (allSp_1 p F fs cs Kf eF hF b3) a cap xs hl
  refine Cx_of Try.func52 rfl Try.ntmps52 rfl fun w0 M0 => ?_
  refine JC_seq ?_
  refine JC_region ?_
  refine JL_step rfl rfl rfl (jo_box rfl rfl) fun b3 => ?_
  refine JL_pd rfl (det_assign rfl) ?_
  refine JL_nil ?_
  refine JE_seq ?_
  refine JC_seq ?_
  refine JC_region ?_
  refine JL_pd rfl (det_move rfl) ?_
  refine JL_pd rfl (det_makeFuncE rfl rfl) ?_
  -- stop: op  2 t7 := (call (Call (value f78) (t5 t6) (31 97)))   <0 1>   45
  refine JL_keep b3 noFp ?_
  refine JL_step rfl rfl rfl (jo_callv rfl rfl Try.call78 rfl (hcf b3)) fun _ => ?_
  refine JL_pd rfl (det_not rfl) ?_
  refine JL_pd rfl (det_assign rfl) ?_
  refine JL_nil ?_
  refine JE_seq ?_
  refine JC_ret ?_
  -- stop: out
  refine JE_out (.inl rfl) () (results1 Try.results52 (res_tmp rfl)) (by simp [List.all_eq_not_any_not]) (List.Perm.refl _) (fun _ _ => trivial)

set_option maxRecDepth 100000 in
theorem indexFuncI_j (p : Int → Bool) (F : Nat) (fs cs : List Value) (Kf : World → Prop) (eF : ∀ args w, (callFunc F args).run Try.prog w = .ok (.enter F args) w) (hF : ∀ x : Int, Cv Try.prog F (fs ++ [I x] ++ cs) Kf (.bool (p x))) (a : Option Addr) (cap : Nat) (xs : List Int) (hl : xs.length ≤ 9223372036854775807) :
    Cv Try.prog 97 [.slice a xs.length cap, .func (.func F) fs.toArray cs.toArray] (KAnd (KSl a xs.length cap encI xs) Kf) (I (idxOf p xs)) := by
  refine Cx_of Try.func97 rfl Try.ntmps97 rfl fun w0 M0 => ?_
  refine JC_seq ?_
  refine JC_region ?_
  refine JL_pd rfl (det_assign rfl) ?_
  refine JL_nil ?_
  refine JE_seq ?_
  refine JC_seq ?_
  refine JC_seq ?_
  refine JC_region ?_
  refine JL_pd rfl (det_move rfl) ?_
  refine JL_pd rfl (det_len rfl Try.runUnderlying23) ?_
  refine JL_pd rfl (det_move rfl) ?_
  refine JL_nil ?_
  refine JE_seq ?_
  refine JC_block ?_
  -- stop: loop
  refine JC_loopF (γ := Nat) (fun i => i ≤ xs.length ∧ (xs.take i).any p = false) (fun i => [(8, I i)]) (fun _ => []) (fun i => xs.length - i) 0 ⟨Nat.zero_le _, rfl⟩ (stsub_consI rfl rfl stsub_nil) ht_nil ?_
  rintro i ⟨hi, hno⟩ K hK
  dsimp only [List.cons_append, List.nil_append]
  refine JC_seq ?_
  refine JC_region ?_
  refine JL_pd rfl (det_lss rfl rfl) ?_
  refine JL_nil ?_
  refine JE_seq ?_
  refine JC_seq ?_
  -- stop: cond
  refine JC_if rfl (fun h1 => ?_) (fun h1 => ?_)
  · have hi2 : i < xs.length := by omega
    refine JC_skip ?_
    refine JE_seq ?_
    refine JC_seq ?_
    refine JC_block ?_
    refine JC_seq ?_
    refine JC_region ?_
    refine JL_pd rfl (det_move rfl) ?_
    refine JL_pd rfl (det_assign rfl) ?_
    refine JL_nil ?_
    refine JE_seq ?_
    refine JC_seq ?_
    refine JC_region ?_
    refine JL_pd rfl (det_move rfl) ?_
    refine JL_pd rfl (det_move rfl) ?_
    refine JL_pd rfl (det_move rfl) ?_
    refine JL_dt rfl (det_indexAddr rfl rfl (by first | rfl | omega) (by first | assumption | omega | decide) Try.runUnderlying23 Try.sizeOf3) ?_
    refine JL_dt rfl (det_loadE rfl (by first | assumption | omega | decide) Try.isAgg3 rfl rfl) ?_
    -- stop: op  5 t16 := (call (Call (value t11) (t15) (3)))   <0 4>   109
    refine JL_step rfl rfl rfl (jo_callv rfl rfl eF rfl (hF xs[i])) fun _ => ?_
    refine JL_nil ?_
    refine JE_seq ?_
    -- stop: cond
    refine JC_cond rfl (fun h2 => ?_) (fun h2 => ?_)
    · refine JC_seq ?_
      refine JC_region ?_
      refine JL_pd rfl (det_move rfl) ?_
      refine JL_pd rfl (det_assign rfl) ?_
      refine JL_nil ?_
      refine JE_seq ?_
      refine JC_ret ?_
      refine JE_block_ret ?_
      refine JE_seq_ret ?_
      refine JE_then_ret ?_
      refine JE_block_ret ?_
      refine JE_seq_ret ?_
      -- stop: out
      refine JE_out (.inl rfl) () (results1 Try.results97 (res_tmp rfl)) (by rw [idxOf_hit hi2 hno h2]) (List.Perm.refl _) (fun _ _ => trivial)
    · refine JC_skip ?_
      refine JE_block ?_
      refine JE_seq ?_
      refine JC_region ?_
      refine JL_pd rfl (det_add rfl rfl ⟨by omega, by omega⟩) ?_
      refine JL_pd rfl (det_move rfl) ?_
      refine JL_nil ?_
      -- stop: end
      refine JE_roundF hK (i + 1) ⟨by omega, by rw [take_snoc hi2, List.any_append, hno]; simp [h2]⟩ (by omega) (stsub_consI rfl (by omega) stsub_nil) ht_nil
  · refine JC_exit ?_
    refine JE_seq_exit ?_
    refine JE_then_exit ?_
    refine JE_block_here ?_
    refine JE_seq ?_
    refine JC_seq ?_
    refine JC_region ?_
    refine JL_pd rfl (det_assign rfl) ?_
    refine JL_nil ?_
    refine JE_seq ?_
    refine JC_ret ?_
    -- stop: out
    obtain rfl : i = xs.length := by omega
    rw [List.take_length] at hno
    refine JE_out (.inl rfl) () (results1 Try.results97 (res_tmp rfl)) (by rw [idxOf_none hno]) (List.Perm.refl _) (fun _ _ => trivial)
theorem containsFuncI_j (p : Int → Bool) (F : Nat) (fs cs : List Value) (Kf : World → Prop) (eF : ∀ args w, (callFunc F args).run Try.prog w = .ok (.enter F args) w) (hF : ∀ x : Int, Cv Try.prog F (fs ++ [I x] ++ cs) Kf (.bool (p x))) (a : Option Addr) (cap : Nat) (xs : List Int) (hl : xs.length ≤ 9223372036854775807) :
    Cv Try.prog 80 [.slice a xs.length cap, .func (.func F) fs.toArray cs.toArray] (KAnd (KSl a xs.length cap encI xs) Kf) (.bool (xs.any p)) := by
  refine Cx_of Try.func80 rfl Try.ntmps80 rfl fun w0 M0 => ?_
  refine JC_seq ?_
  refine JC_region ?_
  refine JL_pd rfl (det_assign rfl) ?_
  refine JL_nil ?_
  refine JE_seq ?_
  refine JC_seq ?_
  refine JC_region ?_
  refine JL_pd rfl (det_move rfl) ?_
  refine JL_pd rfl (det_move rfl) ?_
  -- stop: op  2 t7 := (call (Call (value f97) (t5 t6) (23 99)))   <0 1>   125
  refine JL_step rfl rfl rfl (jo_callv rfl rfl Try.call97 rfl (indexFuncI_j p F fs cs Kf eF hF a cap xs hl)) fun _ => ?_
  refine JL_pd rfl (det_geq rfl rfl) ?_
  refine JL_pd rfl (det_assign rfl) ?_
  refine JL_nil ?_
  refine JE_seq ?_
  refine JC_ret ?_
  -- stop: out
  refine JE_out (.inl rfl) () (results1 Try.results80 (res_tmp rfl)) (by rw [show decide ((0 : Int) ≤ idxOf p xs) = xs.any p from idxOf_any]) (List.Perm.refl _) (fun _ _ => trivial)
theorem allI_1 (p : Int → Bool) (F : Nat) (fs cs : List Value) (Kf : World → Prop) (eF : ∀ args w, (callFunc F args).run Try.prog w = .ok (.enter F args) w) (hF : ∀ x : Int, Cv Try.prog F (fs ++ [I x] ++ cs) Kf (.bool (p x))) (b : Nat) (x : Int) :
    Cv Try.prog 81 [I x, .pointer (some ⟨b, 0, none⟩)] (KAnd (KBox b [.func (.func F) fs.toArray cs.toArray]) Kf) (.bool (!p x)) := by
  refine Cx_of Try.func81 rfl Try.ntmps81 rfl fun w0 M0 => ?_
  refine JC_seq ?_
  refine JC_region ?_
  refine JL_pd rfl (det_assign rfl) ?_
  refine JL_nil ?_
  refine JE_seq ?_
  refine JC_seq ?_
  refine JC_region ?_
  refine JL_dt rfl (det_loadK rfl Try.isAgg99 rfl) ?_
  refine JL_pd rfl (det_move rfl) ?_
  -- stop: op  2 t6 := (call (Call (value t4) (t5) (3)))   <0 1>   45
  refine JL_step rfl rfl rfl (jo_callv rfl rfl eF rfl (hF x)) fun _ => ?_
  refine JL_pd rfl (det_not rfl) ?_
  refine JL_pd rfl (det_assign rfl) ?_
  refine JL_nil ?_
  refine JE_seq ?_
  refine JC_ret ?_
  -- stop: out
  refine JE_out (.inl rfl) () (results1 Try.results81 (res_tmp rfl)) rfl (List.Perm.refl _) (fun _ _ => trivial)
theorem allI_j (p : Int → Bool) (F : Nat) (fs cs : List Value) (Kf : World → Prop) (eF : ∀ args w, (callFunc F args).run Try.prog w = .ok (.enter F args) w) (hF : ∀ x : Int, Cv Try.prog F (fs ++ [I x] ++ cs) Kf (.bool (p x))) (a : Option Addr) (cap : Nat) (xs : List Int) (hl : xs.length ≤ 9223372036854775807) :
    Cv Try.prog 54 [.slice a xs.length cap, .func (.func F) fs.toArray cs.toArray] (KAnd (KSl a xs.length cap encI xs) Kf) (.bool (xs.all p)) := by
  have hcf := fun b3 : Nat => containsFuncI_j (fun x => !p x) 81 [] [.pointer (some ⟨b3, 0, none⟩)] _ Try.call81 (allI_1 p F fs cs Kf eF hF b3) a cap xs hl
  refine Cx_of Try.func54 rfl Try.ntmps54 rfl fun w0 M0 => ?_
  refine JC_seq ?_
  refine JC_region ?_
  refine JL_step rfl rfl rfl (jo_box rfl rfl) fun b3 => ?_
  refine JL_pd rfl (det_assign rfl) ?_
  refine JL_nil ?_
  refine JE_seq ?_
  refine JC_seq ?_
  refine JC_region ?_
  refine JL_pd rfl (det_move rfl) ?_
  refine JL_pd rfl (det_makeFuncE rfl rfl) ?_
  -- stop: op  2 t7 := (call (Call (value f80) (t5 t6) (23 99)))   <0 1>   45
  refine JL_keep b3 noFp ?_
  refine JL_step rfl rfl rfl (jo_callv rfl rfl Try.call80 rfl (hcf b3)) fun _ => ?_
  refine JL_pd rfl (det_not rfl) ?_
  refine JL_pd rfl (det_assign rfl) ?_
  refine JL_nil ?_
  refine JE_seq ?_
  refine JC_ret ?_
  -- stop: out
  refine JE_out (.inl rfl) () (results1 Try.results54 (res_tmp rfl)) (by simp [List.all_eq_not_any_not]) (List.Perm.refl _) (fun _ _ => trivial)

set_option maxRecDepth 100000 in
theorem indexFuncLk_j (p : Lk → Bool) (F : Nat) (fs cs : List Value) (Kf : World → Prop) (eF : ∀ args w, (callFunc F args).run Try.prog w = .ok (.enter F args) w) (hF : ∀ x : Lk, Cv Try.prog F (fs ++ [.agg #[I x.sg, I x.at_]] ++ cs) Kf (.bool (p x))) (a : Option Addr) (cap : Nat) (xs : List Lk) (hl : xs.length ≤ 9223372036854775807) :
    Cv Try.prog 98 [.slice a xs.length cap, .func (.func F) fs.toArray cs.toArray] (KAnd (KSl a xs.length cap encLk xs) Kf) (I (idxOf p xs)) := by
  refine Cx_of Try.func98 rfl Try.ntmps98 rfl fun w0 M0 => ?_
  refine JC_seq ?_
  refine JC_region ?_
  refine JL_pd rfl (det_assign rfl) ?_
  refine JL_nil ?_
  refine JE_seq ?_
  refine JC_seq ?_
  refine JC_seq ?_
  refine JC_region ?_
  refine JL_pd rfl (det_move rfl) ?_
  refine JL_pd rfl (det_len rfl Try.runUnderlying32) ?_
  refine JL_pd rfl (det_move rfl) ?_
  refine JL_nil ?_
  refine JE_seq ?_
  refine JC_block ?_
  -- stop: loop
  refine JC_loopF (γ := Nat) (fun i => i ≤ xs.length ∧ (xs.take i).any p = false) (fun i => [(8, I i)]) (fun _ => []) (fun i => xs.length - i) 0 ⟨Nat.zero_le _, rfl⟩ (stsub_consI rfl rfl stsub_nil) ht_nil ?_
  rintro i ⟨hi, hno⟩ K hK
  dsimp only [List.cons_append, List.nil_append]
  refine JC_seq ?_
  refine JC_region ?_
  refine JL_pd rfl (det_lss rfl rfl) ?_
  refine JL_nil ?_
  refine JE_seq ?_
  refine JC_seq ?_
  -- stop: cond
  refine JC_if rfl (fun h1 => ?_) (fun h1 => ?_)
  · have hi2 : i < xs.length := by omega
    refine JC_skip ?_
    refine JE_seq ?_
    refine JC_seq ?_
    refine JC_block ?_
    refine JC_seq ?_
    refine JC_region ?_
    refine JL_pd rfl (det_move rfl) ?_
    refine JL_pd rfl (det_assign rfl) ?_
    refine JL_nil ?_
    refine JE_seq ?_
    refine JC_seq ?_
    refine JC_region ?_
    refine JL_pd rfl (det_move rfl) ?_
    refine JL_pd rfl (det_move rfl) ?_
    refine JL_pd rfl (det_move rfl) ?_
    refine JL_dt rfl (det_indexAddr rfl rfl (by first | rfl | omega) (by first | assumption | omega | decide) Try.runUnderlying32 Try.sizeOf62) ?_
    refine JL_dt rfl (det_loadEA rfl (by first | assumption | omega | decide) Try.isAgg62 Try.sizeOf62 rfl rfl rfl) ?_
    -- stop: op  5 t16 := (call (Call (value t11) (t15) (62)))   <0 4>   109
    refine JL_step rfl rfl rfl (jo_callv rfl rfl eF rfl (hF xs[i])) fun _ => ?_
    refine JL_nil ?_
    refine JE_seq ?_
    -- stop: cond
    refine JC_cond rfl (fun h2 => ?_) (fun h2 => ?_)
    · refine JC_seq ?_
      refine JC_region ?_
      refine JL_pd rfl (det_move rfl) ?_
      refine JL_pd rfl (det_assign rfl) ?_
      refine JL_nil ?_
      refine JE_seq ?_
      refine JC_ret ?_
      refine JE_block_ret ?_
      refine JE_seq_ret ?_
      refine JE_then_ret ?_
      refine JE_block_ret ?_
      refine JE_seq_ret ?_
      -- stop: out
      refine JE_out (.inl rfl) () (results1 Try.results98 (res_tmp rfl)) (by rw [idxOf_hit hi2 hno h2]) (List.Perm.refl _) (fun _ _ => trivial)
    · refine JC_skip ?_
      refine JE_block ?_
      refine JE_seq ?_
      refine JC_region ?_
      refine JL_pd rfl (det_add rfl rfl ⟨by omega, by omega⟩) ?_
      refine JL_pd rfl (det_move rfl) ?_
      refine JL_nil ?_
      -- stop: end
      refine JE_roundF hK (i + 1) ⟨by omega, by rw [take_snoc hi2, List.any_append, hno]; simp [h2]⟩ (by omega) (stsub_consI rfl (by omega) stsub_nil) ht_nil
  · refine JC_exit ?_
    refine JE_seq_exit ?_
    refine JE_then_exit ?_
    refine JE_block_here ?_
    refine JE_seq ?_
    refine JC_seq ?_
    refine JC_region ?_
    refine JL_pd rfl (det_assign rfl) ?_
    refine JL_nil ?_
    refine JE_seq ?_
    refine JC_ret ?_
    -- stop: out
    obtain rfl : i = xs.length := by omega
    rw [List.take_length] at hno
    refine JE_out (.inl rfl) () (results1 Try.results98 (res_tmp rfl)) (by rw [idxOf_none hno]) (List.Perm.refl _) (fun _ _ => trivial)
theorem containsFuncLk_j (p : Lk → Bool) (F : Nat) (fs cs : List Value) (Kf : World → Prop) (eF : ∀ args w, (callFunc F args).run Try.prog w = .ok (.enter F args) w) (hF : ∀ x : Lk, Cv Try.prog F (fs ++ [.agg #[I x.sg, I x.at_]] ++ cs) Kf (.bool (p x))) (a : Option Addr) (cap : Nat) (xs : List Lk) (hl : xs.length ≤ 9223372036854775807) :
    Cv Try.prog 82 [.slice a xs.length cap, .func (.func F) fs.toArray cs.toArray] (KAnd (KSl a xs.length cap encLk xs) Kf) (.bool (xs.any p)) := by
  refine Cx_of Try.func82 rfl Try.ntmps82 rfl fun w0 M0 => ?_
  refine JC_seq ?_
  refine JC_region ?_
  refine JL_pd rfl (det_assign rfl) ?_
  refine JL_nil ?_
  refine JE_seq ?_
  refine JC_seq ?_
  refine JC_region ?_
  refine JL_pd rfl (det_move rfl) ?_
  refine JL_pd rfl (det_move rfl) ?_
  -- stop: op  2 t7 := (call (Call (value f98) (t5 t6) (32 101)))   <0 1>   125
  refine JL_step rfl rfl rfl (jo_callv rfl rfl Try.call98 rfl (indexFuncLk_j p F fs cs Kf eF hF a cap xs hl)) fun _ => ?_
  refine JL_pd rfl (det_geq rfl rfl) ?_
  refine JL_pd rfl (det_assign rfl) ?_
  refine JL_nil ?_
  refine JE_seq ?_
  refine JC_ret ?_
  -- stop: out
  refine JE_out (.inl rfl) () (results1 Try.results82 (res_tmp rfl)) (by rw [show decide ((0 : Int) ≤ idxOf p xs) = xs.any p from idxOf_any]) (List.Perm.refl _) (fun _ _ => trivial)
theorem allLk_1 (p : Lk → Bool) (F : Nat) (fs cs : List Value) (Kf : World → Prop) (eF : ∀ args w, (callFunc F args).run Try.prog w = .ok (.enter F args) w) (hF : ∀ x : Lk, Cv Try.prog F (fs ++ [.agg #[I x.sg, I x.at_]] ++ cs) Kf (.bool (p x))) (b : Nat) (x : Lk) :
    Cv Try.prog 83 [.agg #[I x.sg, I x.at_], .pointer (some ⟨b, 0, none⟩)] (KAnd (KBox b [.func (.func F) fs.toArray cs.toArray]) Kf) (.bool (!p x)) := by
  refine Cx_of Try.func83 rfl Try.ntmps83 rfl fun w0 M0 => ?_
  refine JC_seq ?_
  refine JC_region ?_
  refine JL_step rfl rfl rfl (jo_box rfl rfl) fun b2 => ?_
  refine JL_pd rfl (det_assign rfl) ?_
  refine JL_nil ?_
  refine JE_seq ?_
  refine JC_seq ?_
  refine JC_region ?_
  refine JL_dt rfl (det_loadK rfl Try.isAgg101 rfl) ?_
  refine JL_dt rfl (det_loadKA rfl Try.isAgg62 Try.sizeOf62 rfl rfl) ?_
  -- stop: op  2 t6 := (call (Call (value t4) (t5) (62)))   <0 1>   45
  refine JL_step rfl rfl rfl (jo_callv rfl rfl eF rfl (hF x)) fun _ => ?_
  refine JL_pd rfl (det_not rfl) ?_
  refine JL_pd rfl (det_assign rfl) ?_
  refine JL_nil ?_
  refine JE_seq ?_
  refine JC_ret ?_
  -- stop: out
  refine JE_out (.inl rfl) () (results1 Try.results83 (res_tmp rfl)) rfl (List.Perm.refl _) (fun _ _ => trivial)
theorem allLk_j (p : Lk → Bool) (F : Nat) (fs cs : List Value) (Kf : World → Prop) (eF : ∀ args w, (callFunc F args).run Try.prog w = .ok (.enter F args) w) (hF : ∀ x : Lk, Cv Try.prog F (fs ++ [.agg #[I x.sg, I x.at_]] ++ cs) Kf (.bool (p x))) (a : Option Addr) (cap : Nat) (xs : List Lk) (hl : xs.length ≤ 9223372036854775807) :
    Cv Try.prog 56 [.slice a xs.length cap, .func (.func F) fs.toArray cs.toArray] (KAnd (KSl a xs.length cap encLk xs) Kf) (.bool (xs.all p)) := by
  have hcf := fun b3 : Nat => containsFuncLk_j (fun x => !p x) 83 [] [.pointer (some ⟨b3, 0, none⟩)] _ Try.call83 (allLk_1 p F fs cs Kf eF hF b3) a cap xs hl
  refine Cx_of Try.func56 rfl Try.ntmps56 rfl fun w0 M0 => ?_
  refine JC_seq ?_
  refine JC_region ?_
  refine JL_step rfl rfl rfl (jo_box rfl rfl) fun b3 => ?_
  refine JL_pd rfl (det_assign rfl) ?_
  refine JL_nil ?_
  refine JE_seq ?_
  refine JC_seq ?_
  refine JC_region ?_
  refine JL_pd rfl (det_move rfl) ?_
  refine JL_pd rfl (det_makeFuncE rfl rfl) ?_
  -- stop: op  2 t7 := (call (Call (value f82) (t5 t6) (32 101)))   <0 1>   45
  refine JL_keep b3 noFp ?_
  refine JL_step rfl rfl rfl (jo_callv rfl rfl Try.call82 rfl (hcf b3)) fun _ => ?_
  refine JL_pd rfl (det_not rfl) ?_
  refine JL_pd rfl (det_assign rfl) ?_
  refine JL_nil ?_
  refine JE_seq ?_
  refine JC_ret ?_
  -- stop: out
  refine JE_out (.inl rfl) () (results1 Try.results56 (res_tmp rfl)) (by simp [List.all_eq_not_any_not]) (List.Perm.refl _) (fun _ _ => trivial)
end Go.Proofs.Ytgbfjcgjcnndpaa

/- Walks of cycle: CheckMachine. -/
namespace Go.Proofs.Ytgbfjcgjcnndpaa
open Go.RowKit Go.Shelf

theorem state_j (m : Mc) (a : MA) (n : Int) (h : 1 ≤ m.states ∧ m.states ≤ 8) : Cv Try.prog 55 [.agg #[I m.states, .slice a.sa m.steps.length a.sc, .slice a.ra m.running.length a.rc, .slice a.ka m.locks.length a.kc], I n] KTrue (.bool (inI n 0 (m.states - 1))) := by
  refine Cx_of Try.func55 rfl Try.ntmps55 rfl fun w0 M0 => ?_
  refine JC_seq ?_
  refine JC_region ?_
  refine JL_step rfl rfl rfl (jo_box rfl rfl) fun b2 => ?_
  refine JL_pd rfl (det_assign rfl) ?_
  refine JL_nil ?_
  refine JE_seq ?_
  refine JC_seq ?_
  refine JC_region ?_
  refine JL_pd rfl (det_move rfl) ?_
  refine JL_pd rfl (det_fieldAddr rfl fo_34_0) ?_
  refine JL_dt rfl (det_loadK rfl Try.isAgg3 rfl) ?_
  refine JL_pd rfl (det_sub rfl rfl ⟨by omega, by omega⟩) ?_
  refine JL_step rfl rfl rfl (jo_callv rfl rfl Try.call51 rfl (within_j _ _ _)) fun _ => ?_
  refine JL_pd rfl (det_assign rfl) ?_
  refine JL_nil ?_
  refine JE_seq ?_
  refine JC_ret ?_
  refine JE_out (.inl rfl) () (results1 Try.results55 (res_tmp rfl)) ?_ (List.Perm.refl _) (fun _ _ => trivial)
  rfl
theorem step_j (m : Mc) (a : MA) (s : Sp) (h : 1 ≤ m.states ∧ m.states ≤ 8) : Cv Try.prog 53 [.agg #[I m.states, .slice a.sa m.steps.length a.sc, .slice a.ra m.running.length a.rc, .slice a.ka m.locks.length a.kc], .agg #[I s.fr, I s.to_, I s.sg]] KTrue (.bool (okStep m s)) := by
  refine Cx_of Try.func53 rfl Try.ntmps53 rfl fun w0 M0 => ?_
  refine JC_seq ?_
  refine JC_region ?_
  refine JL_step rfl rfl rfl (jo_box rfl rfl) fun b2 => ?_
  refine JL_step rfl rfl rfl (jo_box rfl rfl) fun b3 => ?_
  refine JL_pd rfl (det_assign rfl) ?_
  refine JL_nil ?_
  refine JE_seq ?_
  refine JC_seq ?_
  refine JC_region ?_
  refine JL_dt rfl (det_loadKA rfl Try.isAgg34 Try.sizeOf34 rfl rfl) ?_
  refine JL_pd rfl (det_fieldAddr rfl fo_94_0) ?_
  refine JL_dt rfl (det_loadK rfl Try.isAgg3 rfl) ?_
  refine JL_step rfl rfl rfl (jo_callv rfl rfl Try.call55 rfl (state_j m a _ h)) fun _ => ?_
  refine JL_pd rfl (det_move rfl) ?_
  refine JL_split (d0 := 9) rfl (fun h1 => ?_) (fun h1 => ?_)
  · refine JL_guard rfl rfl h1 ?_
    refine JL_dt rfl (det_loadKA rfl Try.isAgg34 Try.sizeOf34 rfl rfl) ?_
    refine JL_guard rfl rfl h1 ?_
    refine JL_pd rfl (det_fieldAddr rfl fo_94_1) ?_
    refine JL_guard rfl rfl h1 ?_
    refine JL_dt rfl (det_loadK rfl Try.isAgg3 rfl) ?_
    refine JL_guard rfl rfl h1 ?_
    refine JL_step rfl rfl rfl (jo_callv rfl rfl Try.call55 rfl (state_j m a _ h)) fun _ => ?_
    refine JL_pd rfl (det_pick_t rfl h1 rfl) ?_
    refine JL_pd rfl (det_move rfl) ?_
    refine JL_split (d0 := 15) rfl (fun h2 => ?_) (fun h2 => ?_)
    · refine JL_guard rfl rfl h2 ?_
      refine JL_pd rfl (det_fieldAddr rfl fo_94_2) ?_
      refine JL_guard rfl rfl h2 ?_
      refine JL_dt rfl (det_loadK rfl Try.isAgg3 rfl) ?_
      refine JL_guard rfl rfl h2 ?_
      refine JL_step rfl rfl rfl (jo_callv rfl rfl Try.call51 rfl (within_j _ _ _)) fun _ => ?_
      refine JL_pd rfl (det_pick_t rfl h2 rfl) ?_
      refine JL_pd rfl (det_assign rfl) ?_
      refine JL_nil ?_
      refine JE_seq ?_
      refine JC_ret ?_
      refine JE_out (.inl rfl) () (results1 Try.results53 (res_tmp rfl)) ?_ (List.Perm.refl _) (fun _ _ => trivial)
      (simp_all [okStep])
    · refine JL_skip rfl rfl h2 rfl ?_
      refine JL_skip rfl rfl h2 rfl ?_
      refine JL_skip rfl rfl h2 rfl ?_
      refine JL_pd rfl (det_pick_f rfl h2 rfl) ?_
      refine JL_pd rfl (det_assign rfl) ?_
      refine JL_nil ?_
      refine JE_seq ?_
      refine JC_ret ?_
      refine JE_out (.inl rfl) () (results1 Try.results53 (res_tmp rfl)) ?_ (List.Perm.refl _) (fun _ _ => trivial)
      (simp_all [okStep])
  · refine JL_skip rfl rfl h1 rfl ?_
    refine JL_skip rfl rfl h1 rfl ?_
    refine JL_skip rfl rfl h1 rfl ?_
    refine JL_skip rfl rfl h1 rfl ?_
    refine JL_pd rfl (det_pick_f rfl h1 rfl) ?_
    refine JL_pd rfl (det_move rfl) ?_
    refine JL_split (d0 := 15) rfl (fun h3 => ?_) (fun h3 => ?_)
    · refine JL_guard rfl rfl h3 ?_
      refine JL_pd rfl (det_fieldAddr rfl fo_94_2) ?_
      refine JL_guard rfl rfl h3 ?_
      refine JL_dt rfl (det_loadK rfl Try.isAgg3 rfl) ?_
      refine JL_guard rfl rfl h3 ?_
      refine JL_step rfl rfl rfl (jo_callv rfl rfl Try.call51 rfl (within_j _ _ _)) fun _ => ?_
      refine JL_pd rfl (det_pick_t rfl h3 rfl) ?_
      refine JL_pd rfl (det_assign rfl) ?_
      refine JL_nil ?_
      refine JE_seq ?_
      refine JC_ret ?_
      refine JE_out (.inl rfl) () (results1 Try.results53 (res_tmp rfl)) ?_ (List.Perm.refl _) (fun _ _ => trivial)
      (simp_all [okStep])
    · refine JL_skip rfl rfl h3 rfl ?_
      refine JL_skip rfl rfl h3 rfl ?_
      refine JL_skip rfl rfl h3 rfl ?_
      refine JL_pd rfl (det_pick_f rfl h3 rfl) ?_
      refine JL_pd rfl (det_assign rfl) ?_
      refine JL_nil ?_
      refine JE_seq ?_
      refine JC_ret ?_
      refine JE_out (.inl rfl) () (results1 Try.results53 (res_tmp rfl)) ?_ (List.Perm.refl _) (fun _ _ => trivial)
      (simp_all [okStep])
theorem lock_j (m : Mc) (a : MA) (l : Lk) (h : 1 ≤ m.states ∧ m.states ≤ 8) : Cv Try.prog 57 [.agg #[I m.states, .slice a.sa m.steps.length a.sc, .slice a.ra m.running.length a.rc, .slice a.ka m.locks.length a.kc], .agg #[I l.sg, I l.at_]] KTrue (.bool (okLock m l)) := by
  refine Cx_of Try.func57 rfl Try.ntmps57 rfl fun w0 M0 => ?_
  refine JC_seq ?_
  refine JC_region ?_
  refine JL_step rfl rfl rfl (jo_box rfl rfl) fun b2 => ?_
  refine JL_step rfl rfl rfl (jo_box rfl rfl) fun b3 => ?_
  refine JL_pd rfl (det_assign rfl) ?_
  refine JL_nil ?_
  refine JE_seq ?_
  refine JC_seq ?_
  refine JC_seq ?_
  refine JC_region ?_
  refine JL_pd rfl (det_fieldAddr rfl fo_62_0) ?_
  refine JL_dt rfl (det_loadK rfl Try.isAgg3 rfl) ?_
  refine JL_pd rfl (det_eql rfl rfl) ?_
  refine JL_pd rfl (det_move rfl) ?_
  refine JL_split (d0 := 8) rfl (fun h1 => ?_) (fun h1 => ?_)
  · refine JL_skip rfl rfl h1 rfl ?_
    refine JL_skip rfl rfl h1 rfl ?_
    refine JL_skip rfl rfl h1 rfl ?_
    refine JL_pd rfl (det_pick_t rfl h1 rfl) ?_
    refine JL_nil ?_
    refine JE_seq ?_
    refine JC_cond rfl (fun h2 => ?_) (fun h2 => ?_)
    · refine JC_seq ?_
      refine JC_region ?_
      refine JL_dt rfl (det_loadKA rfl Try.isAgg34 Try.sizeOf34 rfl rfl) ?_
      refine JL_pd rfl (det_fieldAddr rfl fo_62_1) ?_
      refine JL_dt rfl (det_loadK rfl Try.isAgg3 rfl) ?_
      refine JL_step rfl rfl rfl (jo_callv rfl rfl Try.call55 rfl (state_j m a _ h)) fun _ => ?_
      refine JL_pd rfl (det_assign rfl) ?_
      refine JL_nil ?_
      refine JE_seq ?_
      refine JC_ret ?_
      refine JE_seq_ret ?_
      refine JE_out (.inl rfl) () (results1 Try.results57 (res_tmp rfl)) ?_ (List.Perm.refl _) (fun _ _ => trivial)
      (simp_all [okLock])
    · refine JC_skip ?_
      refine JE_seq ?_
      refine JC_seq ?_
      refine JC_region ?_
      refine JL_pd rfl (det_fieldAddr rfl fo_62_0) ?_
      refine JL_dt rfl (det_loadK rfl Try.isAgg3 rfl) ?_
      refine JL_step rfl rfl rfl (jo_callv rfl rfl Try.call51 rfl (within_j _ _ _)) fun _ => ?_
      refine JL_pd rfl (det_move rfl) ?_
      refine JL_split (d0 := 20) rfl (fun h3 => ?_) (fun h3 => ?_)
      · refine JL_guard rfl rfl h3 ?_
        refine JL_pd rfl (det_fieldAddr rfl fo_62_1) ?_
        refine JL_guard rfl rfl h3 ?_
        refine JL_dt rfl (det_loadK rfl Try.isAgg3 rfl) ?_
        refine JL_guard rfl rfl h3 ?_
        refine JL_step rfl rfl rfl (jo_callv rfl rfl Try.call51 rfl (within_j _ _ _)) fun _ => ?_
        refine JL_pd rfl (det_pick_t rfl h3 rfl) ?_
        refine JL_pd rfl (det_assign rfl) ?_
        refine JL_nil ?_
        refine JE_seq ?_
        refine JC_ret ?_
        refine JE_out (.inl rfl) () (results1 Try.results57 (res_tmp rfl)) ?_ (List.Perm.refl _) (fun _ _ => trivial)
        (simp_all [okLock])
      · refine JL_skip rfl rfl h3 rfl ?_
        refine JL_skip rfl rfl h3 rfl ?_
        refine JL_skip rfl rfl h3 rfl ?_
        refine JL_pd rfl (det_pick_f rfl h3 rfl) ?_
        refine JL_pd rfl (det_assign rfl) ?_
        refine JL_nil ?_
        refine JE_seq ?_
        refine JC_ret ?_
        refine JE_out (.inl rfl) () (results1 Try.results57 (res_tmp rfl)) ?_ (List.Perm.refl _) (fun _ _ => trivial)
        (simp_all [okLock])
  · refine JL_guard rfl rfl h1 ?_
    refine JL_pd rfl (det_fieldAddr rfl fo_62_0) ?_
    refine JL_guard rfl rfl h1 ?_
    refine JL_dt rfl (det_loadK rfl Try.isAgg3 rfl) ?_
    refine JL_guard rfl rfl h1 ?_
    refine JL_pd rfl (det_eql rfl rfl) ?_
    refine JL_pd rfl (det_pick_f rfl h1 rfl) ?_
    refine JL_nil ?_
    refine JE_seq ?_
    refine JC_cond rfl (fun h4 => ?_) (fun h4 => ?_)
    · refine JC_seq ?_
      refine JC_region ?_
      refine JL_dt rfl (det_loadKA rfl Try.isAgg34 Try.sizeOf34 rfl rfl) ?_
      refine JL_pd rfl (det_fieldAddr rfl fo_62_1) ?_
      refine JL_dt rfl (det_loadK rfl Try.isAgg3 rfl) ?_
      refine JL_step rfl rfl rfl (jo_callv rfl rfl Try.call55 rfl (state_j m a _ h)) fun _ => ?_
      refine JL_pd rfl (det_assign rfl) ?_
      refine JL_nil ?_
      refine JE_seq ?_
      refine JC_ret ?_
      refine JE_seq_ret ?_
      refine JE_out (.inl rfl) () (results1 Try.results57 (res_tmp rfl)) ?_ (List.Perm.refl _) (fun _ _ => trivial)
      (simp_all [okLock])
    · refine JC_skip ?_
      refine JE_seq ?_
      refine JC_seq ?_
      refine JC_region ?_
      refine JL_pd rfl (det_fieldAddr rfl fo_62_0) ?_
      refine JL_dt rfl (det_loadK rfl Try.isAgg3 rfl) ?_
      refine JL_step rfl rfl rfl (jo_callv rfl rfl Try.call51 rfl (within_j _ _ _)) fun _ => ?_
      refine JL_pd rfl (det_move rfl) ?_
      refine JL_split (d0 := 20) rfl (fun h5 => ?_) (fun h5 => ?_)
      · refine JL_guard rfl rfl h5 ?_
        refine JL_pd rfl (det_fieldAddr rfl fo_62_1) ?_
        refine JL_guard rfl rfl h5 ?_
        refine JL_dt rfl (det_loadK rfl Try.isAgg3 rfl) ?_
        refine JL_guard rfl rfl h5 ?_
        refine JL_step rfl rfl rfl (jo_callv rfl rfl Try.call51 rfl (within_j _ _ _)) fun _ => ?_
        refine JL_pd rfl (det_pick_t rfl h5 rfl) ?_
        refine JL_pd rfl (det_assign rfl) ?_
        refine JL_nil ?_
        refine JE_seq ?_
        refine JC_ret ?_
        refine JE_out (.inl rfl) () (results1 Try.results57 (res_tmp rfl)) ?_ (List.Perm.refl _) (fun _ _ => trivial)
        (simp_all [okLock])
      · refine JL_skip rfl rfl h5 rfl ?_
        refine JL_skip rfl rfl h5 rfl ?_
        refine JL_skip rfl rfl h5 rfl ?_
        refine JL_pd rfl (det_pick_f rfl h5 rfl) ?_
        refine JL_pd rfl (det_assign rfl) ?_
        refine JL_nil ?_
        refine JE_seq ?_
        refine JC_ret ?_
        refine JE_out (.inl rfl) () (results1 Try.results57 (res_tmp rfl)) ?_ (List.Perm.refl _) (fun _ _ => trivial)
        (simp_all [okLock])
set_option maxRecDepth 100000 in
theorem CheckMachine_j (m : Mc) (a : MA) : Cv Try.prog 19 [.agg #[I m.states, .slice a.sa m.steps.length a.sc, .slice a.ra m.running.length a.rc, .slice a.ka m.locks.length a.kc]] (KMc m a) (I (fault m)) := by
  refine Cx_of Try.func19 rfl Try.ntmps19 rfl fun w0 M0 => ?_
  refine JC_seq ?_
  refine JC_region ?_
  refine JL_step rfl rfl rfl (jo_box rfl rfl) fun b1 => ?_
  refine JL_pd rfl (det_assign rfl) ?_
  refine JL_nil ?_
  refine JE_seq ?_
  refine JC_seq ?_
  refine JC_block ?_
  refine JC_seq ?_
  refine JC_region ?_
  refine JL_pd rfl (det_fieldAddr rfl fo_34_1) ?_
  refine JL_dt rfl (det_loadK rfl Try.isAgg31 rfl) ?_
  refine JL_pd rfl (det_len rfl Try.runUnderlying31) ?_
  refine JL_pd rfl (det_gtr rfl rfl) ?_
  refine JL_pd rfl (det_move rfl) ?_
  -- stop: guard 4
  refine JL_pure (p := m.running.length ≤ 9223372036854775807) (by intro w h; exact h.2.1.1.bd) fun hz => ?_
  refine JL_join1 6 4 (.bool (decide ((24 : Int) < (m.steps.length : Int)) || decide ((40 : Int) < (m.locks.length : Int)))) (fun hj => ?_) ?_
  · refine JL_split (d0 := 9) rfl (fun q6 => ?_) (fun q6 => ?_)
    · refine JL_skip rfl rfl q6 rfl ?_
      refine JL_skip rfl rfl q6 rfl ?_
      refine JL_skip rfl rfl q6 rfl ?_
      refine JL_skip rfl rfl q6 rfl ?_
      refine JL_pd rfl (det_pick_t rfl q6 rfl) ?_
      refine JL_pd rfl (det_assign rfl) ?_
      exact hj (by kernel_rfl) (stsub_consB rfl (by clear hj; first | rfl | (simp only [q6, Bool.and_true, Bool.true_and, Bool.false_and, Bool.and_false, Bool.or_true, Bool.true_or, Bool.or_false, Bool.false_or, Bool.not_true, Bool.not_false]; done) | (simp [q6]; done) | (simp at q6; done) | (simp [q6] <;> omega) | (exfalso; simp at q6; omega)) stsub_nil)
    · refine JL_guard rfl rfl q6 ?_
      refine JL_pd rfl (det_fieldAddr rfl fo_34_3) ?_
      refine JL_guard rfl rfl q6 ?_
      refine JL_dt rfl (det_loadK rfl Try.isAgg32 rfl) ?_
      refine JL_guard rfl rfl q6 ?_
      refine JL_pd rfl (det_len rfl Try.runUnderlying32) ?_
      refine JL_guard rfl rfl q6 ?_
      refine JL_pd rfl (det_gtr rfl rfl) ?_
      refine JL_pd rfl (det_pick_f rfl q6 rfl) ?_
      refine JL_pd rfl (det_assign rfl) ?_
      exact hj (by kernel_rfl) (stsub_consB rfl (by clear hj; first | rfl | (simp only [q6, Bool.and_true, Bool.true_and, Bool.false_and, Bool.and_false, Bool.or_true, Bool.true_or, Bool.or_false, Bool.false_or, Bool.not_true, Bool.not_false]; done) | (simp [q6]; done) | (simp at q6; done) | (simp [q6] <;> omega) | (exfalso; simp at q6; omega)) stsub_nil)
  refine JL_nil ?_
  refine JE_seq ?_
  -- stop: cond
  refine JC_cond rfl (fun h1 => ?_) (fun h1 => ?_)
  · simp only [Bool.or_eq_true, decide_eq_true_eq] at h1
    refine JC_seq ?_
    refine JC_region ?_
    refine JL_pd rfl (det_assign rfl) ?_
    refine JL_nil ?_
    refine JE_seq ?_
    refine JC_ret ?_
    refine JE_block_ret ?_
    refine JE_seq_ret ?_
    -- stop: out
    refine JE_out (.inl rfl) () (results1 Try.results19 (res_tmp rfl)) (by unfold fault; rw [if_pos (by omega)]) (List.Perm.refl _) (fun _ _ => trivial)
  · simp only [Bool.or_eq_false_iff, decide_eq_false_iff_not] at h1
    have h2 : m.steps.length ≤ 24 ∧ m.locks.length ≤ 40 := by omega
    by_cases hw : 1 ≤ m.states ∧ m.states ≤ 8
    · have hw1 : Cv Try.prog 51 [I m.states, I 1, I 8] KTrue (.bool true) := by
        have := within_j m.states 1 8
        rwa [show inI m.states 1 8 = true from decide_eq_true hw] at this
      refine JC_seq ?_
      refine JC_region ?_
      refine JL_pd rfl (det_fieldAddr rfl fo_34_0) ?_
      refine JL_dt rfl (det_loadK rfl Try.isAgg3 rfl) ?_
      -- stop: op  2 t18 := (call (Call (value f51) (t17 1 8) (3 3 3)))   <1>   75
      refine JL_step rfl rfl rfl (jo_callv rfl rfl Try.call51 rfl (hw1)) fun _ => ?_
      refine JL_pd rfl (det_not rfl) ?_
      refine JL_pd rfl (det_move rfl) ?_
      -- stop: guard 4
      refine JL_join1 24 15 (.bool (!(m.steps.all (okStep m) && m.running.all (fun n => inI n 0 (m.states - 1)) && m.locks.all (okLock m)))) (fun hj => ?_) ?_
      · refine JL_split (d0 := 20) rfl (fun q7 => ?_) (fun q7 => ?_)
        · refine JL_skip rfl rfl q7 rfl ?_
          refine JL_skip rfl rfl q7 rfl ?_
          refine JL_skip rfl rfl q7 rfl ?_
          refine JL_skip rfl rfl q7 rfl ?_
          refine JL_skip rfl rfl q7 rfl ?_
          refine JL_skip rfl rfl q7 rfl ?_
          refine JL_pd rfl (det_pick_t rfl q7 rfl) ?_
          refine JL_pd rfl (det_move rfl) ?_
          refine JL_skip rfl rfl rfl rfl ?_
          refine JL_skip rfl rfl rfl rfl ?_
          refine JL_skip rfl rfl rfl rfl ?_
          refine JL_skip rfl rfl rfl rfl ?_
          refine JL_skip rfl rfl rfl rfl ?_
          refine JL_skip rfl rfl rfl rfl ?_
          refine JL_pd rfl (det_pick_t rfl rfl rfl) ?_
          refine JL_pd rfl (det_move rfl) ?_
          refine JL_skip rfl rfl rfl rfl ?_
          refine JL_skip rfl rfl rfl rfl ?_
          refine JL_skip rfl rfl rfl rfl ?_
          refine JL_skip rfl rfl rfl rfl ?_
          refine JL_skip rfl rfl rfl rfl ?_
          refine JL_skip rfl rfl rfl rfl ?_
          refine JL_pd rfl (det_pick_t rfl rfl rfl) ?_
          refine JL_pd rfl (det_assign rfl) ?_
          exact hj (by kernel_rfl) (stsub_consB rfl (by clear hj; first | rfl | (simp only [q7, Bool.and_true, Bool.true_and, Bool.false_and, Bool.and_false, Bool.or_true, Bool.true_or, Bool.or_false, Bool.false_or, Bool.not_true, Bool.not_false]; done) | (simp [q7]; done) | (simp at q7; done) | (simp [q7] <;> omega) | (exfalso; simp at q7; omega)) stsub_nil)
        · refine JL_guard rfl rfl q7 ?_
          refine JL_pd rfl (det_fieldAddr rfl fo_34_1) ?_
          refine JL_guard rfl rfl q7 ?_
          refine JL_dt rfl (det_loadK rfl Try.isAgg31 rfl) ?_
          refine JL_guard rfl rfl q7 ?_
          refine JL_dt rfl (det_loadKA rfl Try.isAgg34 Try.sizeOf34 rfl rfl) ?_
          refine JL_guard rfl rfl q7 ?_
          refine JL_pd rfl (det_makeFuncE rfl rfl) ?_
          refine JL_guard rfl rfl q7 ?_
          refine JL_step rfl rfl rfl (jo_callv rfl rfl Try.call52 rfl (allSp_j (okStep m) 53 [.agg #[I m.states, .slice a.sa m.steps.length a.sc, .slice a.ra m.running.length a.rc, .slice a.ka m.locks.length a.kc]] [] KTrue Try.call53 (fun x => step_j m a x (by assumption)) _ _ m.steps (by omega))) fun _ => ?_
          refine JL_guard rfl rfl q7 ?_
          refine JL_pd rfl (det_not rfl) ?_
          refine JL_pd rfl (det_pick_f rfl q7 rfl) ?_
          refine JL_pd rfl (det_move rfl) ?_
          refine JL_split (d0 := 28) rfl (fun q8 => ?_) (fun q8 => ?_)
          · refine JL_skip rfl rfl q8 rfl ?_
            refine JL_skip rfl rfl q8 rfl ?_
            refine JL_skip rfl rfl q8 rfl ?_
            refine JL_skip rfl rfl q8 rfl ?_
            refine JL_skip rfl rfl q8 rfl ?_
            refine JL_skip rfl rfl q8 rfl ?_
            refine JL_pd rfl (det_pick_t rfl q8 rfl) ?_
            refine JL_pd rfl (det_move rfl) ?_
            refine JL_skip rfl rfl rfl rfl ?_
            refine JL_skip rfl rfl rfl rfl ?_
            refine JL_skip rfl rfl rfl rfl ?_
            refine JL_skip rfl rfl rfl rfl ?_
            refine JL_skip rfl rfl rfl rfl ?_
            refine JL_skip rfl rfl rfl rfl ?_
            refine JL_pd rfl (det_pick_t rfl rfl rfl) ?_
            refine JL_pd rfl (det_assign rfl) ?_
            exact hj (by kernel_rfl) (stsub_consB rfl (by clear hj; first | rfl | (simp only [q7, q8, Bool.and_true, Bool.true_and, Bool.false_and, Bool.and_false, Bool.or_true, Bool.true_or, Bool.or_false, Bool.false_or, Bool.not_true, Bool.not_false]; done) | (simp [q7, q8]; done) | (simp at q7; done) | (simp at q8; done) | (simp [q7, q8] <;> omega) | (exfalso; simp at q7 q8; omega) | (simp [q8] at q7; done) | (simp [q7] at q8; done)) stsub_nil)
          · refine JL_guard rfl rfl q8 ?_
            refine JL_pd rfl (det_fieldAddr rfl fo_34_2) ?_
            refine JL_guard rfl rfl q8 ?_
            refine JL_dt rfl (det_loadK rfl Try.isAgg23 rfl) ?_
            refine JL_guard rfl rfl q8 ?_
            refine JL_dt rfl (det_loadKA rfl Try.isAgg34 Try.sizeOf34 rfl rfl) ?_
            refine JL_guard rfl rfl q8 ?_
            refine JL_pd rfl (det_makeFuncE rfl rfl) ?_
            refine JL_guard rfl rfl q8 ?_
            refine JL_step rfl rfl rfl (jo_callv rfl rfl Try.call54 rfl (allI_j (fun n => inI n 0 (m.states - 1)) 55 [.agg #[I m.states, .slice a.sa m.steps.length a.sc, .slice a.ra m.running.length a.rc, .slice a.ka m.locks.length a.kc]] [] KTrue Try.call55 (fun x => state_j m a x (by assumption)) _ _ m.running (by omega))) fun _ => ?_
            refine JL_guard rfl rfl q8 ?_
            refine JL_pd rfl (det_not rfl) ?_
            refine JL_pd rfl (det_pick_f rfl q8 rfl) ?_
            refine JL_pd rfl (det_move rfl) ?_
            refine JL_split (d0 := 36) rfl (fun q9 => ?_) (fun q9 => ?_)
            · refine JL_skip rfl rfl q9 rfl ?_
              refine JL_skip rfl rfl q9 rfl ?_
              refine JL_skip rfl rfl q9 rfl ?_
              refine JL_skip rfl rfl q9 rfl ?_
              refine JL_skip rfl rfl q9 rfl ?_
              refine JL_skip rfl rfl q9 rfl ?_
              refine JL_pd rfl (det_pick_t rfl q9 rfl) ?_
              refine JL_pd rfl (det_assign rfl) ?_
              exact hj (by kernel_rfl) (stsub_consB rfl (by clear hj; first | rfl | (simp only [q7, q8, q9, Bool.and_true, Bool.true_and, Bool.false_and, Bool.and_false, Bool.or_true, Bool.true_or, Bool.or_false, Bool.false_or, Bool.not_true, Bool.not_false]; done) | (simp [q7, q8, q9]; done) | (simp at q7; done) | (simp at q8; done) | (simp at q9; done) | (simp [q7, q8, q9] <;> omega) | (exfalso; simp at q7 q8 q9; omega) | (simp [q8, q9] at q7; done) | (simp [q7, q9] at q8; done) | (simp [q7, q8] at q9; done)) stsub_nil)
            · refine JL_guard rfl rfl q9 ?_
              refine JL_pd rfl (det_fieldAddr rfl fo_34_3) ?_
              refine JL_guard rfl rfl q9 ?_
              refine JL_dt rfl (det_loadK rfl Try.isAgg32 rfl) ?_
              refine JL_guard rfl rfl q9 ?_
              refine JL_dt rfl (det_loadKA rfl Try.isAgg34 Try.sizeOf34 rfl rfl) ?_
              refine JL_guard rfl rfl q9 ?_
              refine JL_pd rfl (det_makeFuncE rfl rfl) ?_
              refine JL_guard rfl rfl q9 ?_
              refine JL_step rfl rfl rfl (jo_callv rfl rfl Try.call56 rfl (allLk_j (okLock m) 57 [.agg #[I m.states, .slice a.sa m.steps.length a.sc, .slice a.ra m.running.length a.rc, .slice a.ka m.locks.length a.kc]] [] KTrue Try.call57 (fun x => lock_j m a x (by assumption)) _ _ m.locks (by omega))) fun _ => ?_
              refine JL_guard rfl rfl q9 ?_
              refine JL_pd rfl (det_not rfl) ?_
              refine JL_pd rfl (det_pick_f rfl q9 rfl) ?_
              refine JL_pd rfl (det_assign rfl) ?_
              exact hj (by kernel_rfl) (stsub_consB rfl (by clear hj; first | rfl | (simp only [q7, q8, q9, Bool.and_true, Bool.true_and, Bool.false_and, Bool.and_false, Bool.or_true, Bool.true_or, Bool.or_false, Bool.false_or, Bool.not_true, Bool.not_false]; done) | (simp [q7, q8, q9]; done) | (simp at q7; done) | (simp at q8; done) | (simp at q9; done) | (simp [q7, q8, q9] <;> omega) | (exfalso; simp at q7 q8 q9; omega) | (simp [q8, q9] at q7; done) | (simp [q7, q9] at q8; done) | (simp [q7, q8] at q9; done)) stsub_nil)
      refine JL_nil ?_
      refine JE_seq ?_
      -- stop: cond
      refine JC_cond rfl (fun h3 => ?_) (fun h3 => ?_)
      · refine JC_seq ?_
        refine JC_region ?_
        refine JL_pd rfl (det_assign rfl) ?_
        refine JL_nil ?_
        refine JE_seq ?_
        refine JC_ret ?_
        refine JE_block_ret ?_
        refine JE_seq_ret ?_
        -- stop: out
        refine JE_out (.inl rfl) () (results1 Try.results19 (res_tmp rfl)) (by unfold fault; rw [if_neg (by omega), if_neg]; intro hc; simp only [Bool.and_eq_true] at hc; obtain ⟨⟨⟨⟨_, q1⟩, q2⟩, q3⟩, _⟩ := hc; rw [q1, q2, q3] at h3; cases h3) (List.Perm.refl _) (fun _ _ => trivial)
      · simp only [Bool.not_eq_false'] at h3
        refine JC_skip ?_
        refine JE_block ?_
        refine JE_seq ?_
        refine JC_seq ?_
        refine JC_seq ?_
        refine JC_region ?_
        refine JL_pd rfl (det_fieldAddr rfl fo_34_2) ?_
        refine JL_dt rfl (det_loadK rfl Try.isAgg23 rfl) ?_
        refine JL_pd rfl (det_len rfl Try.runUnderlying23) ?_
        refine JL_pd rfl (det_move rfl) ?_
        refine JL_nil ?_
        refine JE_seq ?_
        refine JC_block ?_
        -- stop: loop
        refine JC_loopF (γ := Nat) (fun i => i ≤ m.running.length ∧ ∀ j (h : j + 1 < m.running.length), j + 1 < i → m.running[j] < m.running[j + 1]) (fun i => [(47, I i)]) (fun _ => []) (fun i => m.running.length - i) 0 ⟨Nat.zero_le _, fun _ _ h => by omega⟩ (stsub_consI rfl rfl stsub_nil) ht_nil ?_
        rintro i ⟨hi, hup⟩ K hK
        dsimp only [List.cons_append, List.nil_append]
        refine JC_seq ?_
        refine JC_region ?_
        refine JL_pd rfl (det_lss rfl rfl) ?_
        refine JL_nil ?_
        refine JE_seq ?_
        refine JC_seq ?_
        -- stop: cond
        refine JC_if rfl (fun h4 => ?_) (fun h4 => ?_)
        · have hi2 : i < m.running.length := by omega
          by_cases hz0 : i = 0
          · subst hz0
            refine JC_skip ?_
            refine JE_seq ?_
            refine JC_seq ?_
            refine JC_block ?_
            refine JC_seq ?_
            refine JC_region ?_
            refine JL_pd rfl (det_move rfl) ?_
            refine JL_pd rfl (det_assign rfl) ?_
            refine JL_nil ?_
            refine JE_seq ?_
            refine JC_seq ?_
            refine JC_draw [] (by kernel_rfl) ?_
            refine JA_pd (i := 0) rfl (by kernel_rfl) rfl rfl (det_move rfl) ?_
            refine JA_pd (i := 1) rfl (by kernel_rfl) rfl rfl (det_gtr rfl rfl) ?_
            refine JA_pd (i := 2) rfl (by kernel_rfl) rfl rfl (det_move rfl) ?_
            -- stop: guard 2
            refine JA_is (d0 := 52) false rfl (by rfl) (fun g5 => ?_)
            refine JA_skip (i := 3) rfl (by kernel_rfl) rfl rfl rfl rfl g5 ?_
            refine JA_skip (i := 4) rfl (by kernel_rfl) rfl rfl rfl rfl g5 ?_
            refine JA_skip (i := 5) rfl (by kernel_rfl) rfl rfl rfl rfl g5 ?_
            refine JA_skip (i := 6) rfl (by kernel_rfl) rfl rfl rfl rfl g5 ?_
            refine JA_skip (i := 7) rfl (by kernel_rfl) rfl rfl rfl rfl g5 ?_
            refine JA_skip (i := 8) rfl (by kernel_rfl) rfl rfl rfl rfl g5 ?_
            refine JA_skip (i := 9) rfl (by kernel_rfl) rfl rfl rfl rfl g5 ?_
            refine JA_skip (i := 10) rfl (by kernel_rfl) rfl rfl rfl rfl g5 ?_
            refine JA_skip (i := 11) rfl (by kernel_rfl) rfl rfl rfl rfl g5 ?_
            refine JA_skip (i := 12) rfl (by kernel_rfl) rfl rfl rfl rfl g5 ?_
            refine JA_skip (i := 13) rfl (by kernel_rfl) rfl rfl rfl rfl g5 ?_
            refine JA_skip (i := 14) rfl (by kernel_rfl) rfl rfl rfl rfl g5 ?_
            refine JA_pd (i := 15) rfl (by kernel_rfl) rfl rfl (det_pick_f rfl g5 rfl) ?_
            refine JA_done (by kernel_rfl) ?_
            refine JE_seq ?_
            refine JC_condF rfl rfl ?_
            refine JC_skip ?_
            refine JE_block ?_
            refine JE_seq ?_
            refine JC_region ?_
            refine JL_pd rfl (det_add rfl rfl ⟨by omega, by omega⟩) ?_
            refine JL_pd rfl (det_move rfl) ?_
            refine JL_nil ?_
            -- stop: end
            refine JE_roundF hK (0 + 1) ⟨by omega, fun _ _ h => by omega⟩ (by omega) (stsub_consI rfl (by omega) stsub_nil) ht_nil
          · have hm1 : i - 1 + 1 = i := by omega
            refine JC_skip ?_
            refine JE_seq ?_
            refine JC_seq ?_
            refine JC_block ?_
            refine JC_seq ?_
            refine JC_region ?_
            refine JL_pd rfl (det_move rfl) ?_
            refine JL_pd rfl (det_assign rfl) ?_
            refine JL_nil ?_
            refine JE_seq ?_
            refine JC_seq ?_
            refine JC_draw [] (by kernel_rfl) ?_
            refine JA_pd (i := 0) rfl (by kernel_rfl) rfl rfl (det_move rfl) ?_
            refine JA_pd (i := 1) rfl (by kernel_rfl) rfl rfl (det_gtr rfl rfl) ?_
            refine JA_pd (i := 2) rfl (by kernel_rfl) rfl rfl (det_move rfl) ?_
            -- stop: guard 2
            refine JA_is (d0 := 52) true rfl (by exact decide_eq_true (by omega)) (fun g5 => ?_)
            refine JA_gpd (i := 3) rfl (by kernel_rfl) rfl rfl rfl rfl g5 (det_fieldAddr rfl fo_34_2) ?_
            refine JA_gdt (i := 4) rfl (by kernel_rfl) (by kernel_rfl) rfl rfl rfl rfl g5 (det_loadK rfl Try.isAgg23 rfl) ?_
            refine JA_gpd (i := 5) rfl (by kernel_rfl) rfl rfl rfl rfl g5 (det_move rfl) ?_
            refine JA_gdt (i := 6) rfl (by kernel_rfl) (by kernel_rfl) rfl rfl rfl rfl g5 (det_indexAddr rfl rfl (by first | rfl | omega) (by first | assumption | omega | decide) Try.runUnderlying23 Try.sizeOf3) ?_
            refine JA_gdt (i := 7) rfl (by kernel_rfl) (by kernel_rfl) rfl rfl rfl rfl g5 (det_loadE rfl (by first | assumption | omega | decide) Try.isAgg3 rfl rfl) ?_
            refine JA_gpd (i := 8) rfl (by kernel_rfl) rfl rfl rfl rfl g5 (det_fieldAddr rfl fo_34_2) ?_
            refine JA_gdt (i := 9) rfl (by kernel_rfl) (by kernel_rfl) rfl rfl rfl rfl g5 (det_loadK rfl Try.isAgg23 rfl) ?_
            refine JA_gpd (i := 10) rfl (by kernel_rfl) rfl rfl rfl rfl g5 (det_move rfl) ?_
            refine JA_gpd (i := 11) rfl (by kernel_rfl) rfl rfl rfl rfl g5 (det_sub rfl rfl ⟨by omega, by omega⟩) ?_
            refine JA_gdt (i := 12) rfl (by kernel_rfl) (by kernel_rfl) rfl rfl rfl rfl g5 (det_indexAddr (i := i - 1) rfl rfl (by omega) (by omega) Try.runUnderlying23 Try.sizeOf3) ?_
            refine JA_gdt (i := 13) rfl (by kernel_rfl) (by kernel_rfl) rfl rfl rfl rfl g5 (det_loadE rfl (by first | assumption | omega | decide) Try.isAgg3 rfl rfl) ?_
            refine JA_gpd (i := 14) rfl (by kernel_rfl) rfl rfl rfl rfl g5 (det_leq rfl rfl) ?_
            refine JA_pd (i := 15) rfl (by kernel_rfl) rfl rfl (det_pick_t rfl g5 rfl) ?_
            refine JA_done (by kernel_rfl) ?_
            refine JE_seq ?_
            -- stop: cond
            refine JC_if rfl (fun h6 => ?_) (fun h6 => ?_)
            · refine JC_seq ?_
              refine JC_region ?_
              refine JL_pd rfl (det_assign rfl) ?_
              refine JL_nil ?_
              refine JE_seq ?_
              refine JC_ret ?_
              refine JE_block_ret ?_
              refine JE_seq_ret ?_
              refine JE_then_ret ?_
              refine JE_block_ret ?_
              refine JE_seq_ret ?_
              -- stop: out
              have hbad : ¬ rising m.running = true := fun hr => by
                have := rising_get hr (i - 1) (by omega)
                have e : m.running[i - 1 + 1] = m.running[i] := by congr 1
                omega
              refine JE_out (.inl rfl) () (results1 Try.results19 (res_tmp rfl)) (by unfold fault; rw [if_neg (by omega), if_neg]; intro hc; simp only [Bool.and_eq_true] at hc; exact hbad hc.2) (List.Perm.refl _) (fun _ _ => trivial)
            · refine JC_skip ?_
              refine JE_block ?_
              refine JE_seq ?_
              refine JC_region ?_
              refine JL_pd rfl (det_add rfl rfl ⟨by omega, by omega⟩) ?_
              refine JL_pd rfl (det_move rfl) ?_
              refine JL_nil ?_
              -- stop: end
              refine JE_roundF hK (i + 1) ⟨by omega, fun j hj hji => ?_⟩ (by omega) (stsub_consI rfl (by omega) stsub_nil) ht_nil
              by_cases hj2 : j + 1 < i
              · exact hup j hj hj2
              · obtain rfl : j = i - 1 := by omega
                have e : m.running[i - 1 + 1] = m.running[i] := by congr 1
                omega
        · obtain rfl : i = m.running.length := by omega
          refine JC_exit ?_
          refine JE_seq_exit ?_
          refine JE_then_exit ?_
          refine JE_block_here ?_
          refine JE_seq ?_
          refine JC_seq ?_
          refine JC_region ?_
          refine JL_pd rfl (det_assign rfl) ?_
          refine JL_nil ?_
          refine JE_seq ?_
          refine JC_ret ?_
          -- stop: out
          refine JE_out (.inl rfl) () (results1 Try.results19 (res_tmp rfl)) (by unfold fault; rw [if_neg (by omega), if_pos]; simp only [Bool.and_eq_true] at h3 ⊢; exact ⟨⟨⟨⟨decide_eq_true hw, h3.1.1⟩, h3.1.2⟩, h3.2⟩, rising_iff.2 fun j hj => hup j hj hj⟩) (List.Perm.refl _) (fun _ _ => trivial)
    · have hw1 : Cv Try.prog 51 [I m.states, I 1, I 8] KTrue (.bool false) := by
        have := within_j m.states 1 8
        rwa [show inI m.states 1 8 = false from decide_eq_false hw] at this
      refine JC_seq ?_
      refine JC_region ?_
      refine JL_pd rfl (det_fieldAddr rfl fo_34_0) ?_
      refine JL_dt rfl (det_loadK rfl Try.isAgg3 rfl) ?_
      -- stop: op  2 t18 := (call (Call (value f51) (t17 1 8) (3 3 3)))   <1>   75
      refine JL_step rfl rfl rfl (jo_callv rfl rfl Try.call51 rfl (hw1)) fun _ => ?_
      refine JL_pd rfl (det_not rfl) ?_
      refine JL_pd rfl (det_move rfl) ?_
      -- stop: guard 4
      refine JL_is (d0 := 20) true rfl (by rfl) (fun g1 => ?_)
      refine JL_skip rfl rfl g1 rfl ?_
      refine JL_skip rfl rfl g1 rfl ?_
      refine JL_skip rfl rfl g1 rfl ?_
      refine JL_skip rfl rfl g1 rfl ?_
      refine JL_skip rfl rfl g1 rfl ?_
      refine JL_skip rfl rfl g1 rfl ?_
      refine JL_pd rfl (det_pick_t rfl g1 rfl) ?_
      refine JL_pd rfl (det_move rfl) ?_
      refine JL_skip rfl rfl rfl rfl ?_
      refine JL_skip rfl rfl rfl rfl ?_
      refine JL_skip rfl rfl rfl rfl ?_
      refine JL_skip rfl rfl rfl rfl ?_
      refine JL_skip rfl rfl rfl rfl ?_
      refine JL_skip rfl rfl rfl rfl ?_
      refine JL_pd rfl (det_pick_t rfl rfl rfl) ?_
      refine JL_pd rfl (det_move rfl) ?_
      refine JL_skip rfl rfl rfl rfl ?_
      refine JL_skip rfl rfl rfl rfl ?_
      refine JL_skip rfl rfl rfl rfl ?_
      refine JL_skip rfl rfl rfl rfl ?_
      refine JL_skip rfl rfl rfl rfl ?_
      refine JL_skip rfl rfl rfl rfl ?_
      refine JL_pd rfl (det_pick_t rfl rfl rfl) ?_
      refine JL_pd rfl (det_assign rfl) ?_
      refine JL_nil ?_
      refine JE_seq ?_
      refine JC_condT rfl rfl ?_
      refine JC_seq ?_
      refine JC_region ?_
      refine JL_pd rfl (det_assign rfl) ?_
      refine JL_nil ?_
      refine JE_seq ?_
      refine JC_ret ?_
      refine JE_block_ret ?_
      refine JE_seq_ret ?_
      -- stop: out
      refine JE_out (.inl rfl) () (results1 Try.results19 (res_tmp rfl)) (by unfold fault; rw [if_neg (by omega), if_neg]; intro hc; simp only [Bool.and_eq_true] at hc; exact hw (of_decide_eq_true hc.1.1.1.1)) (List.Perm.refl _) (fun _ _ => trivial)
end Go.Proofs.Ytgbfjcgjcnndpaa

/- Walks of cycle: the hall, where a lock stands, how one walks. -/
namespace Go.Proofs.Ytgbfjcgjcnndpaa
open Go.RowKit Go.Shelf

def ekLk (l : Lk) : Value := .agg #[I l.sg, I l.at_]
def ekSd (s : Sd) : Value := .agg #[I s.st, I s.sp]
theorem chkLk_run (n : Nat) (e : Bool) (a : Lk) (w : World) : (Instr.checkKey e (n + 2) 62 (ekLk a)).run Try.prog w = .ok () w := by
  unfold ekLk
  simp [Instr.checkKey, go_sem]
theorem chkSd_run (n : Nat) (e : Bool) (a : Sd) (w : World) : (Instr.checkKey e (n + 2) 77 (ekSd a)).run Try.prog w = .ok () w := by
  unfold ekSd
  simp [Instr.checkKey, go_sem]
theorem goodLk : GoodKey Try.prog 62 ekLk := by
  refine GoodKey.of_struct Try.underlying62 (fun b k w => chkLk_run 9998 b k w) (fun a b w => ?_) (fun k => ?_) (fun a b h => ?_)
  · show (Op.equalIn 10000 62 (.agg #[I a.sg, I a.at_]) (.agg #[I b.sg, I b.at_])).run Try.prog w = _
    rw [eqa_62]
    congr 1; exact decide_eq_decide.2 Lk.ext'.symm
  · show Instr.sameBits (9999 + 1) _ _ = true
    simp [ekLk, Instr.sameBits]
  · simp [ekLk] at h; exact Lk.ext'.2 h
theorem goodSd : GoodKey Try.prog 77 ekSd := by
  refine GoodKey.of_struct Try.underlying77 (fun b k w => chkSd_run 9998 b k w) (fun a b w => ?_) (fun k => ?_) (fun a b h => ?_)
  · show (Op.equalIn 10000 77 (.agg #[I a.st, I a.sp]) (.agg #[I b.st, I b.sp])).run Try.prog w = _
    rw [eqa_77]
    congr 1; exact decide_eq_decide.2 Sd.ext'.symm
  · show Instr.sameBits (9999 + 1) _ _ = true
    simp [ekSd, Instr.sameBits]
  · simp [ekSd] at h; exact Sd.ext'.2 h
/-- The locks, as a map. -/
def lkM (ls : List Lk) : Lk → Option Bool := fun l => if l ∈ ls then some true else none
theorem lkM_snoc {ls : List Lk} {i : Nat} (h : i < ls.length) : upd (lkM (ls.take i)) ls[i] true = lkM (ls.take (i + 1)) := by
  funext l
  unfold upd lkM
  rw [take_snoc h]
  simp only [List.mem_append, List.mem_singleton]
  by_cases e : l = ls[i]
  · rw [if_pos e, if_pos (.inr e)]
  · rw [if_neg e]
    by_cases h2 : l ∈ ls.take i
    · rw [if_pos h2, if_pos (.inl h2)]
    · rw [if_neg h2, if_neg fun h => h.elim h2 e]
abbrev KHall (m : Mc) (a : MA) (b mb : Nat) : World → Prop := KAnd (KBox b ([I m.states, .slice a.sa m.steps.length a.sc, .slice a.ra m.running.length a.rc, .slice a.ka m.locks.length a.kc] ++ [.map (some mb)])) (KAnd (KMap mb ekLk vB (lkM m.locks)) (KMc m a))
set_option maxRecDepth 100000 in
theorem hall_j (m : Mc) (a : MA) (hl : m.locks.length ≤ 1000) : Cr Try.prog 59 [.agg #[I m.states, .slice a.sa m.steps.length a.sc, .slice a.ra m.running.length a.rc, .slice a.ka m.locks.length a.kc]] (KMc m a) (fun q : Nat × Nat => .pointer (some ⟨q.1, 0, none⟩)) (fun q => KHall m a q.1 q.2) := by
  refine Cx_of Try.func59 rfl Try.ntmps59 rfl fun w0 M0 => ?_
  refine JC_seq ?_
  refine JC_region ?_
  refine JL_step rfl rfl rfl (jo_box rfl rfl) fun b1 => ?_
  refine JL_pd rfl (det_assign rfl) ?_
  refine JL_nil ?_
  refine JE_seq ?_
  refine JC_seq ?_
  refine JC_region ?_
  refine JL_dt rfl (det_loadKA rfl Try.isAgg34 Try.sizeOf34 rfl rfl) ?_
  refine JL_step rfl rfl rfl (jo_makeMap ekLk vB) fun b7 => ?_
  refine JL_pd rfl (det_build rfl (bld_130_0_1 _ _ _ _ _ _ _ _ _ _ _)) ?_
  refine JL_step rfl rfl rfl (jo_box rfl rfl) fun b9 => ?_
  refine JL_pd rfl (det_assign rfl) ?_
  refine JL_nil ?_
  refine JE_seq ?_
  refine JC_seq ?_
  refine JC_seq ?_
  refine JC_region ?_
  refine JL_pd rfl (det_fieldAddr rfl fo_34_3) ?_
  refine JL_dt rfl (det_loadK rfl Try.isAgg32 rfl) ?_
  refine JL_pd rfl (det_len rfl Try.runUnderlying32) ?_
  refine JL_pd rfl (det_move rfl) ?_
  refine JL_nil ?_
  refine JE_seq ?_
  refine JC_block ?_
  -- stop: loop
  refine JC_loopF (γ := Nat) (fun i => i ≤ m.locks.length) (fun i => [(13, I i)]) (fun i => [mp b7 ekLk vB (lkM (m.locks.take i))]) (fun i => m.locks.length - i) 0 (Nat.zero_le _) (stsub_consI rfl rfl stsub_nil) (ht_mp (by funext x; simp [lkM]) ht_nil) ?_
  intro i hi K hK
  dsimp only [List.cons_append, List.nil_append]
  refine JC_seq ?_
  refine JC_region ?_
  refine JL_pd rfl (det_lss rfl rfl) ?_
  refine JL_nil ?_
  refine JE_seq ?_
  refine JC_seq ?_
  -- stop: cond
  refine JC_if rfl (fun h1 => ?_) (fun h1 => ?_)
  · have hi2 : i < m.locks.length := by omega
    refine JC_skip ?_
    refine JE_seq ?_
    refine JC_seq ?_
    refine JC_block ?_
    refine JC_seq ?_
    refine JC_region ?_
    refine JL_dt rfl (det_indexAddr rfl rfl (by first | rfl | omega) (by first | assumption | omega | decide) Try.runUnderlying32 Try.sizeOf62) ?_
    refine JL_dt rfl (det_loadEA rfl (by first | assumption | omega | decide) Try.isAgg62 Try.sizeOf62 rfl rfl rfl) ?_
    refine JL_step rfl rfl rfl (jo_alloc0 Try.zeroValue62 rfl) fun b5 => ?_
    refine JL_step0 rfl rfl (jo_store rfl rfl rfl (by first | (simp only [splice_norm]; done) | (simp only [splice_norm]; rfl) | rfl) Try.sizeOf62 rfl rfl) fun _ => ?_
    refine JL_nil ?_
    refine JE_seq ?_
    refine JC_draw [5] (by kernel_rfl) ?_
    refine JA_pd (i := 0) rfl (by kernel_rfl) rfl rfl (det_move rfl) ?_
    refine JA_pd (i := 1) rfl (by kernel_rfl) rfl rfl (det_nilCheck rfl) ?_
    refine JA_pd (i := 2) rfl (by kernel_rfl) rfl rfl (det_fieldAddr rfl fo_130_1) ?_
    refine JA_dt (i := 3) rfl (by kernel_rfl) (by kernel_rfl) rfl rfl (det_loadK rfl Try.isAgg128 rfl) ?_
    refine JA_dt (i := 4) rfl (by kernel_rfl) (by kernel_rfl) rfl rfl (det_loadKA rfl Try.isAgg62 Try.sizeOf62 rfl rfl) ?_
    refine JA_tail (i := 5) (by kernel_rfl) rfl rfl rfl rfl (jo_mapUpdate (ek := ekLk) (ev := vB) m.locks[i] true (.inl rfl) rfl rfl rfl goodLk Try.underlying128) fun _ => ?_
    refine JT_done (by kernel_rfl) ?_
    refine JE_block ?_
    refine JE_seq ?_
    refine JC_region ?_
    refine JL_pd rfl (det_add rfl rfl ⟨by omega, by omega⟩) ?_
    refine JL_pd rfl (det_move rfl) ?_
    refine JL_nil ?_
    -- stop: end
    refine JE_roundF hK (i + 1) (by omega) (by omega) (stsub_consI rfl (by omega) stsub_nil) (ht_mp (lkM_snoc hi2) ht_nil)
  · obtain rfl : i = m.locks.length := by omega
    rw [List.take_length]
    refine JC_keepM (ek := ekLk) (ev := vB) b7 noFp ?_
    refine JC_keep b9 noFp ?_
    refine JC_exit ?_
    refine JE_seq_exit ?_
    refine JE_then_exit ?_
    refine JE_block_here ?_
    refine JE_seq ?_
    refine JC_seq ?_
    refine JC_region ?_
    refine JL_pd rfl (det_move rfl) ?_
    refine JL_pd rfl (det_assign rfl) ?_
    refine JL_nil ?_
    refine JE_seq ?_
    refine JC_ret ?_
    -- stop: out
    refine JE_out (.inl rfl) (b9, b7) (results1 Try.results59 (res_tmp rfl)) rfl (List.Perm.refl _) (fun w h => ⟨h.1, h.2.1, h.2.2⟩)
theorem further_j (s : Sd) (h : s.sp ≤ 1000) (h2 : -1000 ≤ s.sp) : Cv Try.prog 101 [.agg #[I s.st, I s.sp]] KTrue (.agg #[I s.st, I (s.sp + 1)]) := by
  refine Cx_of Try.func101 rfl Try.ntmps101 rfl fun w0 M0 => ?_
  refine JC_seq ?_
  refine JC_region ?_
  refine JL_step rfl rfl rfl (jo_box rfl rfl) fun b1 => ?_
  refine JL_step rfl rfl rfl (jo_alloc0 Try.zeroValue77 rfl) fun b2 => ?_
  refine JL_nil ?_
  refine JE_seq ?_
  refine JC_seq ?_
  refine JC_region ?_
  refine JL_pd rfl (det_fieldAddr rfl fo_77_0) ?_
  refine JL_dt rfl (det_loadK rfl Try.isAgg3 rfl) ?_
  refine JL_pd rfl (det_fieldAddr rfl fo_77_1) ?_
  refine JL_dt rfl (det_loadK rfl Try.isAgg3 rfl) ?_
  refine JL_pd rfl (det_add rfl rfl ⟨by omega, by omega⟩) ?_
  refine JL_pd rfl (det_build rfl (bld_77_0_1 _ _)) ?_
  refine JL_step0 rfl rfl (jo_store rfl rfl rfl (by first | (simp only [splice_norm]; done) | (simp only [splice_norm]; rfl) | rfl) Try.sizeOf77 rfl rfl) fun _ => ?_
  refine JL_nil ?_
  refine JE_seq ?_
  refine JC_ret ?_
  -- stop: out
  refine JE_out (.inl rfl) () (results1 Try.results101 (res_box rfl Try.isAgg77 Try.sizeOf77 rfl)) rfl (List.Perm.refl _) (fun _ _ => trivial)
theorem nearer_j (s : Sd) (h : s.sp ≤ 1000) (h2 : -1000 ≤ s.sp) : Cv Try.prog 102 [.agg #[I s.st, I s.sp]] KTrue (.agg #[I s.st, I (s.sp - 1)]) := by
  refine Cx_of Try.func102 rfl Try.ntmps102 rfl fun w0 M0 => ?_
  refine JC_seq ?_
  refine JC_region ?_
  refine JL_step rfl rfl rfl (jo_box rfl rfl) fun b1 => ?_
  refine JL_step rfl rfl rfl (jo_alloc0 Try.zeroValue77 rfl) fun b2 => ?_
  refine JL_nil ?_
  refine JE_seq ?_
  refine JC_seq ?_
  refine JC_region ?_
  refine JL_pd rfl (det_fieldAddr rfl fo_77_0) ?_
  refine JL_dt rfl (det_loadK rfl Try.isAgg3 rfl) ?_
  refine JL_pd rfl (det_fieldAddr rfl fo_77_1) ?_
  refine JL_dt rfl (det_loadK rfl Try.isAgg3 rfl) ?_
  refine JL_pd rfl (det_sub rfl rfl ⟨by omega, by omega⟩) ?_
  refine JL_pd rfl (det_build rfl (bld_77_0_1 _ _)) ?_
  refine JL_step0 rfl rfl (jo_store rfl rfl rfl (by first | (simp only [splice_norm]; done) | (simp only [splice_norm]; rfl) | rfl) Try.sizeOf77 rfl rfl) fun _ => ?_
  refine JL_nil ?_
  refine JE_seq ?_
  refine JC_ret ?_
  -- stop: out
  refine JE_out (.inl rfl) () (results1 Try.results102 (res_box rfl Try.isAgg77 Try.sizeOf77 rfl)) rfl (List.Perm.refl _) (fun _ _ => trivial)
theorem at_j (s : Sd) (g : Int) : Cv Try.prog 68 [.agg #[I s.st, I s.sp], I g] KTrue (.agg #[I (lockAt s g).sg, I (lockAt s g).at_]) := by
  refine Cx_of Try.func68 rfl Try.ntmps68 rfl fun w0 M0 => ?_
  refine JC_seq ?_
  refine JC_region ?_
  refine JL_step rfl rfl rfl (jo_box rfl rfl) fun b2 => ?_
  refine JL_step rfl rfl rfl (jo_alloc0 Try.zeroValue62 rfl) fun b4 => ?_
  refine JL_nil ?_
  refine JE_seq ?_
  refine JC_seq ?_
  refine JC_seq ?_
  refine JC_region ?_
  refine JL_pd rfl (det_move rfl) ?_
  refine JL_pd rfl (det_eql rfl rfl) ?_
  refine JL_pd rfl (det_move rfl) ?_
  refine JL_split (d0 := 7) rfl (fun h1 => ?_) (fun h1 => ?_)
  · refine JL_skip rfl rfl h1 rfl ?_
    refine JL_skip rfl rfl h1 rfl ?_
    refine JL_pd rfl (det_pick_t rfl h1 rfl) ?_
    refine JL_nil ?_
    refine JE_seq ?_
    refine JC_condT rfl rfl ?_
    refine JC_seq ?_
    refine JC_region ?_
    refine JL_pd rfl (det_move rfl) ?_
    refine JL_pd rfl (det_fieldAddr rfl fo_77_0) ?_
    refine JL_dt rfl (det_loadK rfl Try.isAgg3 rfl) ?_
    refine JL_pd rfl (det_build rfl (bld_62_0_1 _ _)) ?_
    refine JL_step0 rfl rfl (jo_store rfl rfl rfl (by first | (simp only [splice_norm]; done) | (simp only [splice_norm]; rfl) | rfl) Try.sizeOf62 rfl rfl) fun _ => ?_
    refine JL_nil ?_
    refine JE_seq ?_
    refine JC_ret ?_
    refine JE_seq_ret ?_
    refine JE_out (.inl rfl) () (results1 Try.results68 (res_box rfl Try.isAgg62 Try.sizeOf62 rfl)) ?_ (List.Perm.refl _) (fun _ _ => trivial)
    (simp_all [lockAt])
  · refine JL_guard rfl rfl h1 ?_
    refine JL_pd rfl (det_move rfl) ?_
    refine JL_guard rfl rfl h1 ?_
    refine JL_pd rfl (det_eql rfl rfl) ?_
    refine JL_pd rfl (det_pick_f rfl h1 rfl) ?_
    refine JL_nil ?_
    refine JE_seq ?_
    refine JC_cond rfl (fun h2 => ?_) (fun h2 => ?_)
    · refine JC_seq ?_
      refine JC_region ?_
      refine JL_pd rfl (det_move rfl) ?_
      refine JL_pd rfl (det_fieldAddr rfl fo_77_0) ?_
      refine JL_dt rfl (det_loadK rfl Try.isAgg3 rfl) ?_
      refine JL_pd rfl (det_build rfl (bld_62_0_1 _ _)) ?_
      refine JL_step0 rfl rfl (jo_store rfl rfl rfl (by first | (simp only [splice_norm]; done) | (simp only [splice_norm]; rfl) | rfl) Try.sizeOf62 rfl rfl) fun _ => ?_
      refine JL_nil ?_
      refine JE_seq ?_
      refine JC_ret ?_
      refine JE_seq_ret ?_
      refine JE_out (.inl rfl) () (results1 Try.results68 (res_box rfl Try.isAgg62 Try.sizeOf62 rfl)) ?_ (List.Perm.refl _) (fun _ _ => trivial)
      (simp_all [lockAt])
    · refine JC_skip ?_
      refine JE_seq ?_
      refine JC_seq ?_
      refine JC_region ?_
      refine JL_pd rfl (det_move rfl) ?_
      refine JL_pd rfl (det_fieldAddr rfl fo_77_1) ?_
      refine JL_dt rfl (det_loadK rfl Try.isAgg3 rfl) ?_
      refine JL_pd rfl (det_build rfl (bld_62_0_1 _ _)) ?_
      refine JL_step0 rfl rfl (jo_store rfl rfl rfl (by first | (simp only [splice_norm]; done) | (simp only [splice_norm]; rfl) | rfl) Try.sizeOf62 rfl rfl) fun _ => ?_
      refine JL_nil ?_
      refine JE_seq ?_
      refine JC_ret ?_
      refine JE_out (.inl rfl) () (results1 Try.results68 (res_box rfl Try.isAgg62 Try.sizeOf62 rfl)) ?_ (List.Perm.refl _) (fun _ _ => trivial)
      (simp_all [lockAt])
def walkM : Int → Option Bool := upd (upd (fun _ => none) 6 true) 7 false
def evW : Bool → Value
  | true => .agg #[.func (.func 101) #[] #[], I 2]
  | false => .agg #[.func (.func 102) #[] #[], I 0]
theorem walks_j : Cx Try.prog 89 [] [] KTrue (fun b : Nat => .map (some b)) (fun b => [mp b ekI evW walkM]) (fun _ => KTrue) := by
  refine Cx_of Try.func89 rfl Try.ntmps89 rfl fun w0 M0 => ?_
  refine JC_seq ?_
  refine JC_region ?_
  refine JL_pd rfl (det_assign rfl) ?_
  refine JL_nil ?_
  refine JE_seq ?_
  refine JC_seq ?_
  refine JC_region ?_
  refine JL_step rfl rfl rfl (jo_makeMap ekI evW) fun b1 => ?_
  refine JL_pd rfl (det_build rfl (bld_139_0_1 _ _ _ _)) ?_
  refine JL_step0 rfl rfl (jo_mapUpdate (ek := ekI) (6 : Int) true (.inr rfl) rfl rfl rfl (goodI Try.underlying3) Try.underlying141) fun _ => ?_
  refine JL_pd rfl (det_build rfl (bld_139_0_1 _ _ _ _)) ?_
  refine JL_step0 rfl rfl (jo_mapUpdate (ek := ekI) (7 : Int) false (.inr rfl) rfl rfl rfl (goodI Try.underlying3) Try.underlying141) fun _ => ?_
  refine JL_pd rfl (det_move rfl) ?_
  refine JL_pd rfl (det_assign rfl) ?_
  refine JL_nil ?_
  refine JE_seq ?_
  refine JC_ret ?_
  -- stop: out
  refine JE_out (.inl rfl) b1 (results1 Try.results89 (res_tmp rfl)) rfl (List.Perm.refl _) (fun _ _ => trivial)
theorem moves_j (m : Mc) (a : MA) (s : Sd) (g : Int) : Cr Try.prog 67 [.agg #[I m.states, .slice a.sa m.steps.length a.sc, .slice a.ra m.running.length a.rc, .slice a.ka m.locks.length a.kc], .agg #[I s.st, I s.sp], I g] KTrue (fun q : Nat × Nat × Nat => .func (.func 88) #[] #[pt q.1, pt q.2.1, pt q.2.2]) (fun q => KAnd (KBox q.1 [I g]) (KAnd (KBox q.2.1 [I s.st, I s.sp]) (KBox q.2.2 [I m.states, .slice a.sa m.steps.length a.sc, .slice a.ra m.running.length a.rc, .slice a.ka m.locks.length a.kc]))) := by
  refine Cx_of Try.func67 rfl Try.ntmps67 rfl fun w0 M0 => ?_
  refine JC_seq ?_
  refine JC_region ?_
  refine JL_step rfl rfl rfl (jo_box rfl rfl) fun b3 => ?_
  refine JL_step rfl rfl rfl (jo_box rfl rfl) fun b4 => ?_
  refine JL_step rfl rfl rfl (jo_box rfl rfl) fun b5 => ?_
  refine JL_pd rfl (det_assign rfl) ?_
  refine JL_nil ?_
  refine JE_seq ?_
  refine JC_seq ?_
  refine JC_region ?_
  refine JL_keep b5 noFp ?_
  refine JL_keep b4 noFp ?_
  refine JL_keep b3 noFp ?_
  refine JL_pd rfl (det_makeFuncE rfl rfl) ?_
  refine JL_pd rfl (det_assign rfl) ?_
  refine JL_nil ?_
  refine JE_seq ?_
  refine JC_ret ?_
  -- stop: out
  refine JE_out (.inl rfl) (b5, b4, b3) (results1 Try.results67 (res_tmp rfl)) rfl (List.Perm.refl _) (fun w h => ⟨h.2.2.1, h.2.1, h.1⟩)
theorem next_j (b : Nat) (s : Sd) (g : Int) : Cr Try.prog 74 [pt b, .agg #[I s.st, I s.sp], I g] KTrue (fun q : Nat × Nat × Nat => .func (.func 93) #[] #[pt q.1, pt q.2.1, pt q.2.2]) (fun q => KAnd (KBox q.1 [pt b]) (KAnd (KBox q.2.1 [I s.st, I s.sp]) (KBox q.2.2 [I g]))) := by
  refine Cx_of Try.func74 rfl Try.ntmps74 rfl fun w0 M0 => ?_
  refine JC_seq ?_
  refine JC_region ?_
  refine JL_step rfl rfl rfl (jo_box rfl rfl) fun b3 => ?_
  refine JL_step rfl rfl rfl (jo_box rfl rfl) fun b4 => ?_
  refine JL_step rfl rfl rfl (jo_box rfl rfl) fun b5 => ?_
  refine JL_pd rfl (det_assign rfl) ?_
  refine JL_nil ?_
  refine JE_seq ?_
  refine JC_seq ?_
  refine JC_region ?_
  refine JL_keep b5 noFp ?_
  refine JL_keep b4 noFp ?_
  refine JL_keep b3 noFp ?_
  refine JL_pd rfl (det_makeFuncE rfl rfl) ?_
  refine JL_pd rfl (det_assign rfl) ?_
  refine JL_nil ?_
  refine JE_seq ?_
  refine JC_ret ?_
  -- stop: out
  refine JE_out (.inl rfl) (b3, b4, b5) (results1 Try.results74 (res_tmp rfl)) rfl (List.Perm.refl _) (fun w h => ⟨h.1, h.2.1, h.2.2.1⟩)
end Go.Proofs.Ytgbfjcgjcnndpaa

/- Walks of cycle: what is ranged over. -/
namespace Go.Proofs.Ytgbfjcgjcnndpaa
open Go.RowKit Go.Shelf

def encS1 (s : Sd) : List Value := [.agg #[I s.st, I s.sp]]
theorem stepTo_snoc (m : Mc) (s : Sd) (g : Int) (i : Nat) (h : i < m.steps.length) : ((m.steps.take (i + 1)).filter fun x => decide (x.fr = s.st) && decide (x.sg = g)).map (fun x => (⟨x.to_, s.sp⟩ : Sd)) =
    ((m.steps.take i).filter fun x => decide (x.fr = s.st) && decide (x.sg = g)).map (fun x => (⟨x.to_, s.sp⟩ : Sd)) ++ (if m.steps[i].fr = s.st ∧ m.steps[i].sg = g then [⟨m.steps[i].to_, s.sp⟩] else []) := by
  rw [take_snoc h, List.filter_append, List.map_append]
  congr 1
  by_cases h1 : m.steps[i].fr = s.st <;> by_cases h2 : m.steps[i].sg = g <;> simp [h1, h2]
theorem stepTo_pre (m : Mc) (s : Sd) (g : Int) (i : Nat) : ((m.steps.take i).filter fun x => decide (x.fr = s.st) && decide (x.sg = g)).map (fun x => (⟨x.to_, s.sp⟩ : Sd)) <+: stepTo m s g := by
  unfold stepTo
  exact ((List.take_prefix i m.steps).filter _).map _
set_option maxRecDepth 100000 in
theorem moves_it (m : Mc) (a : MA) (s : Sd) (g : Int) (q1 q2 q3 : Nat) (hl : m.steps.length ≤ 1000) (hs : -1000 ≤ s.sp ∧ s.sp ≤ 1000) : Iter Try.prog 88 [pt q1, pt q2, pt q3] encS1 (KAnd (KBox q1 [I g]) (KAnd (KBox q2 [I s.st, I s.sp]) (KAnd (KBox q3 [I m.states, .slice a.sa m.steps.length a.sc, .slice a.ra m.running.length a.rc, .slice a.ka m.locks.length a.kc]) (KMc m a)))) (moves m s g) := by
  intro l Rel J Jx c hJ hy
  by_cases h6 : g = 6
  · subst h6
    refine Cx_of Try.func88 rfl Try.ntmps88 rfl fun w0 M0 => ?_
    refine JC_seq ?_
    refine JC_seq ?_
    -- stop: draw
    refine JC_cutN (γ := Nat) (fun _ => True) (fun b5 => [(5, pt b5), (6, .bool true)]) (fun b5 => [bx b5 [.func (.func 101) #[] #[], I 2]]) (fun K hK => ?_) (fun b5 _ => ?_)
    · refine JC_draw [7] (by kernel_rfl) ?_
      refine JA_dt (i := 1) rfl (by kernel_rfl) (by kernel_rfl) rfl rfl (det_loadK rfl Try.isAgg3 rfl) ?_
      refine JA_ready (rs := [0, 6]) (by kernel_rfl) rfl ?_
      refine JAl_cons (i := 0) rfl rfl (jo_call rfl rfl Try.call89 rfl (walks_j)) (fun _ => ⟨hsub_drop 1 rfl, fun _ h => h.2⟩) (fun x10 => ?_) ?_
      · refine JA_ready (rs := [2, 6]) (by kernel_rfl) rfl ?_
        refine JAl_cons (i := 2) rfl rfl (Det.jo (det_lookup2S (ek := ekI) (key := (6 : Int)) (v := true) (show walkM 6 = some true from rfl) rfl rfl (goodI Try.underlying3) Try.underlying141 Try.zeroValue139) (by intro c h; cases h)) (fun _ => ⟨hsub_refl, fun _ h => h⟩) (fun _ => ?_) ?_
        · refine JA_pd (i := 3) rfl (by kernel_rfl) rfl rfl (det_move rfl) ?_
          refine JA_pd (i := 4) rfl (by kernel_rfl) rfl rfl (det_extract rfl rfl) ?_
          refine JA_pd (i := 5) rfl (by kernel_rfl) rfl rfl (det_extract rfl rfl) ?_
          refine JA_one (i := 6) (by kernel_rfl) rfl rfl (jo_alloc0 Try.zeroValue139 rfl) (fun _ => ⟨hsub_drop 1 rfl, fun _ h => h⟩) fun b5 => ?_
          refine JA_tail (i := 7) (by kernel_rfl) rfl rfl rfl rfl (jo_store rfl rfl rfl (by first | (simp only [splice_norm]; done) | (simp only [splice_norm]; rfl) | rfl) Try.sizeOf139 rfl rfl) fun _ => ?_
          refine JT_pd (i := 8) rfl (by kernel_rfl) rfl rfl (det_assign rfl) ?_
          refine JT_done (by kernel_rfl) ?_
          exact JE_cutF hK b5 trivial (stsub_cons rfl (stsub_cons rfl stsub_nil)) (ht_cons ht_nil)
        refine JAl_cons (i := 6) rfl rfl (jo_alloc0 Try.zeroValue139 rfl) (fun _ => ⟨hsub_drop 1 rfl, fun _ h => h⟩) (fun b5 => ?_) ?_
        · refine JA_one (i := 2) (by kernel_rfl) rfl rfl (Det.jo (det_lookup2S (ek := ekI) (key := (6 : Int)) (v := true) (show walkM 6 = some true from rfl) rfl rfl (goodI Try.underlying3) Try.underlying141 Try.zeroValue139) (by intro c h; cases h)) (fun _ => ⟨hsub_refl, fun _ h => h⟩) fun _ => ?_
          refine JA_pd (i := 3) rfl (by kernel_rfl) rfl rfl (det_move rfl) ?_
          refine JA_pd (i := 4) rfl (by kernel_rfl) rfl rfl (det_extract rfl rfl) ?_
          refine JA_pd (i := 5) rfl (by kernel_rfl) rfl rfl (det_extract rfl rfl) ?_
          refine JA_tail (i := 7) (by kernel_rfl) rfl rfl rfl rfl (jo_store rfl rfl rfl (by first | (simp only [splice_norm]; done) | (simp only [splice_norm]; rfl) | rfl) Try.sizeOf139 rfl rfl) fun _ => ?_
          refine JT_pd (i := 8) rfl (by kernel_rfl) rfl rfl (det_assign rfl) ?_
          refine JT_done (by kernel_rfl) ?_
          exact JE_cutF hK b5 trivial (stsub_cons rfl (stsub_cons rfl stsub_nil)) (ht_cons ht_nil)
        exact JAl_nil
      refine JAl_cons (i := 6) rfl rfl (jo_alloc0 Try.zeroValue139 rfl) (fun _ => ⟨hsub_drop 1 rfl, fun _ h => h⟩) (fun b5 => ?_) ?_
      · refine JA_one (i := 0) (by kernel_rfl) rfl rfl (jo_call rfl rfl Try.call89 rfl (walks_j)) (fun _ => ⟨hsub_drop 1 rfl, fun _ h => h.2⟩) fun x10 => ?_
        refine JA_one (i := 2) (by kernel_rfl) rfl rfl (Det.jo (det_lookup2S (ek := ekI) (key := (6 : Int)) (v := true) (show walkM 6 = some true from rfl) rfl rfl (goodI Try.underlying3) Try.underlying141 Try.zeroValue139) (by intro c h; cases h)) (fun _ => ⟨hsub_refl, fun _ h => h⟩) fun _ => ?_
        refine JA_pd (i := 3) rfl (by kernel_rfl) rfl rfl (det_move rfl) ?_
        refine JA_pd (i := 4) rfl (by kernel_rfl) rfl rfl (det_extract rfl rfl) ?_
        refine JA_pd (i := 5) rfl (by kernel_rfl) rfl rfl (det_extract rfl rfl) ?_
        refine JA_tail (i := 7) (by kernel_rfl) rfl rfl rfl rfl (jo_store rfl rfl rfl (by first | (simp only [splice_norm]; done) | (simp only [splice_norm]; rfl) | rfl) Try.sizeOf139 rfl rfl) fun _ => ?_
        refine JT_pd (i := 8) rfl (by kernel_rfl) rfl rfl (det_assign rfl) ?_
        refine JT_done (by kernel_rfl) ?_
        exact JE_cutF hK b5 trivial (stsub_cons rfl (stsub_cons rfl stsub_nil)) (ht_cons ht_nil)
      exact JAl_nil
    dsimp only [List.cons_append, List.nil_append]
    refine JC_seq ?_
    refine JC_region ?_
    refine JL_pd rfl (det_move rfl) ?_
    refine JL_nil ?_
    refine JE_seq ?_
    refine JC_condT rfl rfl ?_
    refine JC_seq ?_
    refine JC_seq ?_
    refine JC_region ?_
    refine JL_pd rfl (det_fieldAddr rfl fo_77_1) ?_
    refine JL_dt rfl (det_loadK rfl Try.isAgg3 rfl) ?_
    refine JL_pd rfl (det_fieldAddr rfl fo_139_1) ?_
    refine JL_dt rfl (det_loadK rfl Try.isAgg3 rfl) ?_
    refine JL_pd rfl (det_neq rfl rfl) ?_
    refine JL_nil ?_
    refine JE_seq ?_
    -- stop: cond
    refine JC_ifn rfl (fun h1 => ?_) (fun h1 => ?_)
    · have hm : moves m s 6 = [⟨s.st, s.sp + 1⟩] := by unfold moves; rw [if_pos rfl, if_neg h1]
      refine JC_region ?_
      refine JL_pd rfl (det_move rfl) ?_
      refine JL_pd rfl (det_fieldAddr rfl fo_139_0) ?_
      refine JL_dt rfl (det_loadK rfl Try.isAgg137 rfl) ?_
      refine JL_dt rfl (det_loadKA rfl Try.isAgg77 Try.sizeOf77 rfl rfl) ?_
      -- stop: op  4 t25 := (call (Call (value t23) (t24) (77)))   <2 3>   132
      have hpx : ([] : List Sd) ++ [⟨s.st, s.sp + 1⟩] <+: moves m s 6 := by rw [hm]; exact List.prefix_refl _
      refine JL_step rfl rfl rfl (jo_callv rfl rfl Try.call101 rfl (further_j s (by omega) (by omega))) fun _ => ?_
      -- stop: op  5 t26 := (call (Call (value t21) (t25) (77)))   <0 4 4>   132
      refine JL_step rfl rfl rfl (jo_yield c rfl rfl rfl (hy [] ⟨s.st, s.sp + 1⟩ c hJ hpx)) fun y => ?_
      refine JL_nil ?_
      refine JE_seq ?_
      refine JC_ret ?_
      refine JE_seq_ret ?_
      -- stop: out
      refine JE_out (.inl rfl) (_, y.1, [⟨s.st, s.sp + 1⟩], y.2) (results0 Try.results88 ) rfl (List.Perm.refl _) (fun w h => by rw [hm]; have hq := h.1; cases hy1 : y.1 <;> rw [hy1] at hq <;> simpa using hq)
    · have hm : moves m s 6 = [] := by unfold moves; rw [if_pos rfl, if_pos h1]
      refine JC_skip ?_
      refine JE_seq ?_
      refine JC_ret ?_
      refine JE_seq_ret ?_
      -- stop: out
      refine JE_out (.inl rfl) (_, true, [], c) (results0 Try.results88 ) rfl pick_perm (fun w h => by rw [hm, if_pos rfl]; exact hJ)
  · by_cases h7 : g = 7
    · subst h7
      refine Cx_of Try.func88 rfl Try.ntmps88 rfl fun w0 M0 => ?_
      refine JC_seq ?_
      refine JC_seq ?_
      -- stop: draw
      refine JC_cutN (γ := Nat) (fun _ => True) (fun b5 => [(5, pt b5), (6, .bool true)]) (fun b5 => [bx b5 [.func (.func 102) #[] #[], I 0]]) (fun K hK => ?_) (fun b5 _ => ?_)
      · refine JC_draw [7] (by kernel_rfl) ?_
        refine JA_dt (i := 1) rfl (by kernel_rfl) (by kernel_rfl) rfl rfl (det_loadK rfl Try.isAgg3 rfl) ?_
        refine JA_ready (rs := [0, 6]) (by kernel_rfl) rfl ?_
        refine JAl_cons (i := 0) rfl rfl (jo_call rfl rfl Try.call89 rfl (walks_j)) (fun _ => ⟨hsub_drop 1 rfl, fun _ h => h.2⟩) (fun x10 => ?_) ?_
        · refine JA_ready (rs := [2, 6]) (by kernel_rfl) rfl ?_
          refine JAl_cons (i := 2) rfl rfl (Det.jo (det_lookup2S (ek := ekI) (key := (7 : Int)) (v := false) (show walkM 7 = some false from rfl) rfl rfl (goodI Try.underlying3) Try.underlying141 Try.zeroValue139) (by intro c h; cases h)) (fun _ => ⟨hsub_refl, fun _ h => h⟩) (fun _ => ?_) ?_
          · refine JA_pd (i := 3) rfl (by kernel_rfl) rfl rfl (det_move rfl) ?_
            refine JA_pd (i := 4) rfl (by kernel_rfl) rfl rfl (det_extract rfl rfl) ?_
            refine JA_pd (i := 5) rfl (by kernel_rfl) rfl rfl (det_extract rfl rfl) ?_
            refine JA_one (i := 6) (by kernel_rfl) rfl rfl (jo_alloc0 Try.zeroValue139 rfl) (fun _ => ⟨hsub_drop 1 rfl, fun _ h => h⟩) fun b5 => ?_
            refine JA_tail (i := 7) (by kernel_rfl) rfl rfl rfl rfl (jo_store rfl rfl rfl (by first | (simp only [splice_norm]; done) | (simp only [splice_norm]; rfl) | rfl) Try.sizeOf139 rfl rfl) fun _ => ?_
            refine JT_pd (i := 8) rfl (by kernel_rfl) rfl rfl (det_assign rfl) ?_
            refine JT_done (by kernel_rfl) ?_
            exact JE_cutF hK b5 trivial (stsub_cons rfl (stsub_cons rfl stsub_nil)) (ht_cons ht_nil)
          refine JAl_cons (i := 6) rfl rfl (jo_alloc0 Try.zeroValue139 rfl) (fun _ => ⟨hsub_drop 1 rfl, fun _ h => h⟩) (fun b5 => ?_) ?_
          · refine JA_one (i := 2) (by kernel_rfl) rfl rfl (Det.jo (det_lookup2S (ek := ekI) (key := (7 : Int)) (v := false) (show walkM 7 = some false from rfl) rfl rfl (goodI Try.underlying3) Try.underlying141 Try.zeroValue139) (by intro c h; cases h)) (fun _ => ⟨hsub_refl, fun _ h => h⟩) fun _ => ?_
            refine JA_pd (i := 3) rfl (by kernel_rfl) rfl rfl (det_move rfl) ?_
            refine JA_pd (i := 4) rfl (by kernel_rfl) rfl rfl (det_extract rfl rfl) ?_
            refine JA_pd (i := 5) rfl (by kernel_rfl) rfl rfl (det_extract rfl rfl) ?_
            refine JA_tail (i := 7) (by kernel_rfl) rfl rfl rfl rfl (jo_store rfl rfl rfl (by first | (simp only [splice_norm]; done) | (simp only [splice_norm]; rfl) | rfl) Try.sizeOf139 rfl rfl) fun _ => ?_
            refine JT_pd (i := 8) rfl (by kernel_rfl) rfl rfl (det_assign rfl) ?_
            refine JT_done (by kernel_rfl) ?_
            exact JE_cutF hK b5 trivial (stsub_cons rfl (stsub_cons rfl stsub_nil)) (ht_cons ht_nil)
          exact JAl_nil
        refine JAl_cons (i := 6) rfl rfl (jo_alloc0 Try.zeroValue139 rfl) (fun _ => ⟨hsub_drop 1 rfl, fun _ h => h⟩) (fun b5 => ?_) ?_
        · refine JA_one (i := 0) (by kernel_rfl) rfl rfl (jo_call rfl rfl Try.call89 rfl (walks_j)) (fun _ => ⟨hsub_drop 1 rfl, fun _ h => h.2⟩) fun x10 => ?_
          refine JA_one (i := 2) (by kernel_rfl) rfl rfl (Det.jo (det_lookup2S (ek := ekI) (key := (7 : Int)) (v := false) (show walkM 7 = some false from rfl) rfl rfl (goodI Try.underlying3) Try.underlying141 Try.zeroValue139) (by intro c h; cases h)) (fun _ => ⟨hsub_refl, fun _ h => h⟩) fun _ => ?_
          refine JA_pd (i := 3) rfl (by kernel_rfl) rfl rfl (det_move rfl) ?_
          refine JA_pd (i := 4) rfl (by kernel_rfl) rfl rfl (det_extract rfl rfl) ?_
          refine JA_pd (i := 5) rfl (by kernel_rfl) rfl rfl (det_extract rfl rfl) ?_
          refine JA_tail (i := 7) (by kernel_rfl) rfl rfl rfl rfl (jo_store rfl rfl rfl (by first | (simp only [splice_norm]; done) | (simp only [splice_norm]; rfl) | rfl) Try.sizeOf139 rfl rfl) fun _ => ?_
          refine JT_pd (i := 8) rfl (by kernel_rfl) rfl rfl (det_assign rfl) ?_
          refine JT_done (by kernel_rfl) ?_
          exact JE_cutF hK b5 trivial (stsub_cons rfl (stsub_cons rfl stsub_nil)) (ht_cons ht_nil)
        exact JAl_nil
      dsimp only [List.cons_append, List.nil_append]
      refine JC_seq ?_
      refine JC_region ?_
      refine JL_pd rfl (det_move rfl) ?_
      refine JL_nil ?_
      refine JE_seq ?_
      refine JC_condT rfl rfl ?_
      refine JC_seq ?_
      refine JC_seq ?_
      refine JC_region ?_
      refine JL_pd rfl (det_fieldAddr rfl fo_77_1) ?_
      refine JL_dt rfl (det_loadK rfl Try.isAgg3 rfl) ?_
      refine JL_pd rfl (det_fieldAddr rfl fo_139_1) ?_
      refine JL_dt rfl (det_loadK rfl Try.isAgg3 rfl) ?_
      refine JL_pd rfl (det_neq rfl rfl) ?_
      refine JL_nil ?_
      refine JE_seq ?_
      -- stop: cond
      refine JC_ifn rfl (fun h1 => ?_) (fun h1 => ?_)
      · have hm : moves m s 7 = [⟨s.st, s.sp - 1⟩] := by unfold moves; rw [if_neg (by decide), if_pos rfl, if_neg h1]
        refine JC_region ?_
        refine JL_pd rfl (det_move rfl) ?_
        refine JL_pd rfl (det_fieldAddr rfl fo_139_0) ?_
        refine JL_dt rfl (det_loadK rfl Try.isAgg137 rfl) ?_
        refine JL_dt rfl (det_loadKA rfl Try.isAgg77 Try.sizeOf77 rfl rfl) ?_
        -- stop: op  4 t25 := (call (Call (value t23) (t24) (77)))   <2 3>   132
        have hpx : ([] : List Sd) ++ [⟨s.st, s.sp - 1⟩] <+: moves m s 7 := by rw [hm]; exact List.prefix_refl _
        refine JL_step rfl rfl rfl (jo_callv rfl rfl Try.call102 rfl (nearer_j s (by omega) (by omega))) fun _ => ?_
        -- stop: op  5 t26 := (call (Call (value t21) (t25) (77)))   <0 4 4>   132
        refine JL_step rfl rfl rfl (jo_yield c rfl rfl rfl (hy [] ⟨s.st, s.sp - 1⟩ c hJ hpx)) fun y => ?_
        refine JL_nil ?_
        refine JE_seq ?_
        refine JC_ret ?_
        refine JE_seq_ret ?_
        -- stop: out
        refine JE_out (.inl rfl) (_, y.1, [⟨s.st, s.sp - 1⟩], y.2) (results0 Try.results88 ) rfl (List.Perm.refl _) (fun w h => by rw [hm]; have hq := h.1; cases hy1 : y.1 <;> rw [hy1] at hq <;> simpa using hq)
      · have hm : moves m s 7 = [] := by unfold moves; rw [if_neg (by decide), if_pos rfl, if_pos h1]
        refine JC_skip ?_
        refine JE_seq ?_
        refine JC_ret ?_
        refine JE_seq_ret ?_
        -- stop: out
        refine JE_out (.inl rfl) (_, true, [], c) (results0 Try.results88 ) rfl pick_perm (fun w h => by rw [hm, if_pos rfl]; exact hJ)
    · have hmv : moves m s g = stepTo m s g := by unfold moves; rw [if_neg h6, if_neg h7]
      refine Cx_of Try.func88 rfl Try.ntmps88 rfl fun w0 M0 => ?_
      refine JC_seq ?_
      refine JC_seq ?_
      -- stop: draw
      refine JC_cutN (γ := Nat) (fun _ => True) (fun b5 => [(5, pt b5), (6, .bool false)]) (fun b5 => [bx b5 [.nilFunc, I 0]]) (fun K hK => ?_) (fun b5 _ => ?_)
      · refine JC_draw [7] (by kernel_rfl) ?_
        refine JA_dt (i := 1) rfl (by kernel_rfl) (by kernel_rfl) rfl rfl (det_loadK rfl Try.isAgg3 rfl) ?_
        refine JA_ready (rs := [0, 6]) (by kernel_rfl) rfl ?_
        refine JAl_cons (i := 0) rfl rfl (jo_call rfl rfl Try.call89 rfl (walks_j)) (fun _ => ⟨hsub_drop 1 rfl, fun _ h => h.2⟩) (fun x10 => ?_) ?_
        · refine JA_ready (rs := [2, 6]) (by kernel_rfl) rfl ?_
          refine JAl_cons (i := 2) rfl rfl (Det.jo (det_lookup2N (ek := ekI) (ev := evW) (key := g) (show walkM g = none by simp [walkM, upd, h6, h7]) rfl rfl (goodI Try.underlying3) Try.underlying141 Try.zeroValue139) (by intro c h; cases h)) (fun _ => ⟨hsub_refl, fun _ h => h⟩) (fun _ => ?_) ?_
          · refine JA_pd (i := 3) rfl (by kernel_rfl) rfl rfl (det_move rfl) ?_
            refine JA_pd (i := 4) rfl (by kernel_rfl) rfl rfl (det_extract rfl rfl) ?_
            refine JA_pd (i := 5) rfl (by kernel_rfl) rfl rfl (det_extract rfl rfl) ?_
            refine JA_one (i := 6) (by kernel_rfl) rfl rfl (jo_alloc0 Try.zeroValue139 rfl) (fun _ => ⟨hsub_drop 1 rfl, fun _ h => h⟩) fun b5 => ?_
            refine JA_tail (i := 7) (by kernel_rfl) rfl rfl rfl rfl (jo_store rfl rfl rfl (by first | (simp only [splice_norm]; done) | (simp only [splice_norm]; rfl) | rfl) Try.sizeOf139 rfl rfl) fun _ => ?_
            refine JT_pd (i := 8) rfl (by kernel_rfl) rfl rfl (det_assign rfl) ?_
            refine JT_done (by kernel_rfl) ?_
            exact JE_cutF hK b5 trivial (stsub_cons rfl (stsub_cons rfl stsub_nil)) (ht_cons ht_nil)
          refine JAl_cons (i := 6) rfl rfl (jo_alloc0 Try.zeroValue139 rfl) (fun _ => ⟨hsub_drop 1 rfl, fun _ h => h⟩) (fun b5 => ?_) ?_
          · refine JA_one (i := 2) (by kernel_rfl) rfl rfl (Det.jo (det_lookup2N (ek := ekI) (ev := evW) (key := g) (show walkM g = none by simp [walkM, upd, h6, h7]) rfl rfl (goodI Try.underlying3) Try.underlying141 Try.zeroValue139) (by intro c h; cases h)) (fun _ => ⟨hsub_refl, fun _ h => h⟩) fun _ => ?_
            refine JA_pd (i := 3) rfl (by kernel_rfl) rfl rfl (det_move rfl) ?_
            refine JA_pd (i := 4) rfl (by kernel_rfl) rfl rfl (det_extract rfl rfl) ?_
            refine JA_pd (i := 5) rfl (by kernel_rfl) rfl rfl (det_extract rfl rfl) ?_
            refine JA_tail (i := 7) (by kernel_rfl) rfl rfl rfl rfl (jo_store rfl rfl rfl (by first | (simp only [splice_norm]; done) | (simp only [splice_norm]; rfl) | rfl) Try.sizeOf139 rfl rfl) fun _ => ?_
            refine JT_pd (i := 8) rfl (by kernel_rfl) rfl rfl (det_assign rfl) ?_
            refine JT_done (by kernel_rfl) ?_
            exact JE_cutF hK b5 trivial (stsub_cons rfl (stsub_cons rfl stsub_nil)) (ht_cons ht_nil)
          exact JAl_nil
        refine JAl_cons (i := 6) rfl rfl (jo_alloc0 Try.zeroValue139 rfl) (fun _ => ⟨hsub_drop 1 rfl, fun _ h => h⟩) (fun b5 => ?_) ?_
        · refine JA_one (i := 0) (by kernel_rfl) rfl rfl (jo_call rfl rfl Try.call89 rfl (walks_j)) (fun _ => ⟨hsub_drop 1 rfl, fun _ h => h.2⟩) fun x10 => ?_
          refine JA_one (i := 2) (by kernel_rfl) rfl rfl (Det.jo (det_lookup2N (ek := ekI) (ev := evW) (key := g) (show walkM g = none by simp [walkM, upd, h6, h7]) rfl rfl (goodI Try.underlying3) Try.underlying141 Try.zeroValue139) (by intro c h; cases h)) (fun _ => ⟨hsub_refl, fun _ h => h⟩) fun _ => ?_
          refine JA_pd (i := 3) rfl (by kernel_rfl) rfl rfl (det_move rfl) ?_
          refine JA_pd (i := 4) rfl (by kernel_rfl) rfl rfl (det_extract rfl rfl) ?_
          refine JA_pd (i := 5) rfl (by kernel_rfl) rfl rfl (det_extract rfl rfl) ?_
          refine JA_tail (i := 7) (by kernel_rfl) rfl rfl rfl rfl (jo_store rfl rfl rfl (by first | (simp only [splice_norm]; done) | (simp only [splice_norm]; rfl) | rfl) Try.sizeOf139 rfl rfl) fun _ => ?_
          refine JT_pd (i := 8) rfl (by kernel_rfl) rfl rfl (det_assign rfl) ?_
          refine JT_done (by kernel_rfl) ?_
          exact JE_cutF hK b5 trivial (stsub_cons rfl (stsub_cons rfl stsub_nil)) (ht_cons ht_nil)
        exact JAl_nil
      dsimp only [List.cons_append, List.nil_append]
      refine JC_seq ?_
      refine JC_region ?_
      refine JL_pd rfl (det_move rfl) ?_
      refine JL_nil ?_
      refine JE_seq ?_
      refine JC_condF rfl rfl ?_
      refine JC_skip ?_
      refine JE_seq ?_
      refine JC_seq ?_
      refine JC_region ?_
      refine JL_pd rfl (det_fieldAddr rfl fo_34_1) ?_
      refine JL_dt rfl (det_loadK rfl Try.isAgg31 rfl) ?_
      refine JL_pd rfl (det_len rfl Try.runUnderlying31) ?_
      refine JL_pd rfl (det_move rfl) ?_
      refine JL_nil ?_
      refine JE_seq ?_
      refine JC_block ?_
      -- stop: loop
      refine JC_loopF (γ := Nat × Chunk) (fun q => q.1 ≤ m.steps.length ∧ J (((m.steps.take q.1).filter fun x => decide (x.fr = s.st) && decide (x.sg = g)).map fun x => (⟨x.to_, s.sp⟩ : Sd)) q.2) (fun q => [(30, I q.1)]) (fun q => [q.2]) (fun q => m.steps.length - q.1) (0, c) ⟨Nat.zero_le _, by simpa using hJ⟩ (stsub_consI rfl rfl stsub_nil) (ht_cons ht_nil) ?_
      rintro ⟨i, c'⟩ ⟨hi, hJi⟩ K hK
      dsimp only [List.cons_append, List.nil_append] at hi hJi ⊢
      have hsn := fun h => stepTo_snoc m s g i h
      refine JC_seq ?_
      refine JC_region ?_
      refine JL_pd rfl (det_lss rfl rfl) ?_
      refine JL_nil ?_
      refine JE_seq ?_
      refine JC_seq ?_
      -- stop: cond
      refine JC_if rfl (fun h1 => ?_) (fun h1 => ?_)
      · have hi2 : i < m.steps.length := by omega
        have hsn := hsn hi2
        refine JC_skip ?_
        refine JE_seq ?_
        refine JC_seq ?_
        refine JC_block ?_
        refine JC_seq ?_
        refine JC_region ?_
        refine JL_dt rfl (det_indexAddr rfl rfl (by first | rfl | omega) (by first | assumption | omega | decide) Try.runUnderlying31 Try.sizeOf94) ?_
        refine JL_dt rfl (det_loadEA rfl (by first | assumption | omega | decide) Try.isAgg94 Try.sizeOf94 rfl rfl rfl) ?_
        refine JL_step rfl rfl rfl (jo_alloc0 Try.zeroValue94 rfl) fun b8 => ?_
        refine JL_step0 rfl rfl (jo_store rfl rfl rfl (by first | (simp only [splice_norm]; done) | (simp only [splice_norm]; rfl) | rfl) Try.sizeOf94 rfl rfl) fun _ => ?_
        refine JL_nil ?_
        refine JE_seq ?_
        refine JC_seq ?_
        refine JC_region ?_
        refine JL_pd rfl (det_fieldAddr rfl fo_94_0) ?_
        refine JL_dt rfl (det_loadK rfl Try.isAgg3 rfl) ?_
        refine JL_pd rfl (det_fieldAddr rfl fo_77_0) ?_
        refine JL_dt rfl (det_loadK rfl Try.isAgg3 rfl) ?_
        refine JL_pd rfl (det_eql rfl rfl) ?_
        refine JL_pd rfl (det_move rfl) ?_
        -- stop: guard 5
        refine JL_split (d0 := 39) rfl (fun k1 => ?_) (fun k1 => ?_)
        · have k1' := of_decide_eq_true k1
          refine JL_guard rfl rfl k1 ?_
          refine JL_pd rfl (det_fieldAddr rfl fo_94_2) ?_
          refine JL_guard rfl rfl k1 ?_
          refine JL_dt rfl (det_loadK rfl Try.isAgg3 rfl) ?_
          refine JL_guard rfl rfl k1 ?_
          refine JL_dt rfl (det_loadK rfl Try.isAgg3 rfl) ?_
          refine JL_guard rfl rfl k1 ?_
          refine JL_pd rfl (det_eql rfl rfl) ?_
          refine JL_pd rfl (det_pick_t rfl k1 rfl) ?_
          refine JL_pd rfl (det_move rfl) ?_
          -- stop: guard 11
          refine JL_split (d0 := 45) rfl (fun k2 => ?_) (fun k2 => ?_)
          · have k2' := of_decide_eq_true k2
            rw [if_pos ⟨k1', k2'⟩] at hsn
            have hpx := stepTo_pre m s g (i + 1)
            rw [hsn, ← hmv] at hpx
            refine JL_guard rfl rfl k2 ?_
            refine JL_pd rfl (det_move rfl) ?_
            refine JL_guard rfl rfl k2 ?_
            refine JL_pd rfl (det_fieldAddr rfl fo_94_1) ?_
            refine JL_guard rfl rfl k2 ?_
            refine JL_dt rfl (det_loadK rfl Try.isAgg3 rfl) ?_
            refine JL_guard rfl rfl k2 ?_
            refine JL_pd rfl (det_fieldAddr rfl fo_77_1) ?_
            refine JL_guard rfl rfl k2 ?_
            refine JL_dt rfl (det_loadK rfl Try.isAgg3 rfl) ?_
            refine JL_guard rfl rfl k2 ?_
            refine JL_pd rfl (det_build rfl (bld_77_0_1 _ _)) ?_
            refine JL_guard rfl rfl k2 ?_
            -- stop: op 18 t52 := (call (Call (value t46) (t51) (77)))   <12 17 11 11>   137
            refine JL_step rfl rfl rfl (jo_yield c' rfl rfl rfl (hy _ ⟨m.steps[i].to_, s.sp⟩ c' hJi hpx)) fun y => ?_
            refine JL_guard rfl rfl k2 ?_
            refine JL_pd rfl (det_not rfl) ?_
            refine JL_pd rfl (det_pick_t rfl k2 rfl) ?_
            refine JL_nil ?_
            refine JE_seq ?_
            -- stop: cond
            refine JC_pure (p := if y.1 = true then J _ y.2 else Jx _ y.2) (fun w h => h.1) fun hq => ?_
            refine JC_cond rfl (fun k3 => ?_) (fun k3 => ?_)
            · simp only [Bool.not_eq_true'] at k3
              rw [k3, if_neg (by decide)] at hq
              refine JC_ret ?_
              refine JE_block_ret ?_
              refine JE_seq_ret ?_
              refine JE_then_ret ?_
              refine JE_block_ret ?_
              -- stop: out
              refine JE_out (.inl rfl) (_, false, (((m.steps.take i).filter fun x => decide (x.fr = s.st) && decide (x.sg = g)).map fun x => (⟨x.to_, s.sp⟩ : Sd)) ++ [⟨m.steps[i].to_, s.sp⟩], y.2) (results0 Try.results88 ) rfl pick_perm (fun w h => by simp only [Bool.false_eq_true, if_false]; exact ⟨hpx, hq⟩)
            · simp only [Bool.not_eq_false'] at k3
              rw [k3, if_pos rfl] at hq
              refine JC_skip ?_
              refine JE_block ?_
              refine JE_seq ?_
              refine JC_region ?_
              refine JL_pd rfl (det_add rfl rfl ⟨by omega, by omega⟩) ?_
              refine JL_pd rfl (det_move rfl) ?_
              refine JL_nil ?_
              -- stop: end
              refine JE_roundF hK (i + 1, y.2) ⟨by simp only; omega, by simp only; rw [hsn]; exact hq⟩ (by simp only; omega) (stsub_consI rfl (by simp only; omega) stsub_nil) (ht_cons ht_nil)
          · have k2' := of_decide_eq_false k2
            rw [if_neg (fun h => k2' h.2), List.append_nil] at hsn
            refine JL_skip rfl rfl k2 rfl ?_
            refine JL_skip rfl rfl k2 rfl ?_
            refine JL_skip rfl rfl k2 rfl ?_
            refine JL_skip rfl rfl k2 rfl ?_
            refine JL_skip rfl rfl k2 rfl ?_
            refine JL_skip rfl rfl k2 rfl ?_
            refine JL_skip rfl rfl k2 rfl ?_
            refine JL_skip rfl rfl k2 rfl ?_
            refine JL_pd rfl (det_pick_f rfl k2 rfl) ?_
            refine JL_nil ?_
            refine JE_seq ?_
            refine JC_condF rfl rfl ?_
            refine JC_skip ?_
            refine JE_block ?_
            refine JE_seq ?_
            refine JC_region ?_
            refine JL_pd rfl (det_add rfl rfl ⟨by omega, by omega⟩) ?_
            refine JL_pd rfl (det_move rfl) ?_
            refine JL_nil ?_
            -- stop: end
            refine JE_roundF hK (i + 1, c') ⟨by simp only; omega, by simp only; rw [hsn]; exact hJi⟩ (by simp only; omega) (stsub_consI rfl (by simp only; omega) stsub_nil) (ht_cons ht_nil)
        · have k1' := of_decide_eq_false k1
          rw [if_neg (fun h => k1' h.1), List.append_nil] at hsn
          refine JL_skip rfl rfl k1 rfl ?_
          refine JL_skip rfl rfl k1 rfl ?_
          refine JL_skip rfl rfl k1 rfl ?_
          refine JL_skip rfl rfl k1 rfl ?_
          refine JL_pd rfl (det_pick_f rfl k1 rfl) ?_
          refine JL_pd rfl (det_move rfl) ?_
          refine JL_skip rfl rfl rfl rfl ?_
          refine JL_skip rfl rfl rfl rfl ?_
          refine JL_skip rfl rfl rfl rfl ?_
          refine JL_skip rfl rfl rfl rfl ?_
          refine JL_skip rfl rfl rfl rfl ?_
          refine JL_skip rfl rfl rfl rfl ?_
          refine JL_skip rfl rfl rfl rfl ?_
          refine JL_skip rfl rfl rfl rfl ?_
          refine JL_pd rfl (det_pick_f rfl rfl rfl) ?_
          refine JL_nil ?_
          refine JE_seq ?_
          refine JC_condF rfl rfl ?_
          refine JC_skip ?_
          refine JE_block ?_
          refine JE_seq ?_
          refine JC_region ?_
          refine JL_pd rfl (det_add rfl rfl ⟨by omega, by omega⟩) ?_
          refine JL_pd rfl (det_move rfl) ?_
          refine JL_nil ?_
          -- stop: end
          refine JE_roundF hK (i + 1, c') ⟨by simp only; omega, by simp only; rw [hsn]; exact hJi⟩ (by simp only; omega) (stsub_consI rfl (by simp only; omega) stsub_nil) (ht_cons ht_nil)
      · obtain rfl : i = m.steps.length := by omega
        rw [List.take_length] at hJi
        refine JC_exit ?_
        refine JE_seq_exit ?_
        refine JE_then_exit ?_
        refine JE_block_here ?_
        -- stop: out
        refine JE_out (.inr rfl) (_, true, [], c') (results0 Try.results88 ) rfl pick_perm (fun w h => by rw [if_pos rfl, hmv]; exact hJi)
set_option maxRecDepth 100000 in
/-- What comes next. -/
theorem next_it (m : Mc) (a : MA) (s : Sd) (g : Int) (b mb q1 q2 q3 : Nat) (hl : m.steps.length ≤ 1000) (hs : -1000 ≤ s.sp ∧ s.sp ≤ 1000) : Iter Try.prog 93 [pt q1, pt q2, pt q3] encS1 (KAnd (KAnd (KBox q1 [pt b]) (KAnd (KBox q2 [I s.st, I s.sp]) (KBox q3 [I g]))) (KHall m a b mb)) (nextL m m.locks s g) := by
  intro l Rel J Jx c hJ hy
  have hit := fun q1 q2 q3 => moves_it m a s g q1 q2 q3 hl hs l Rel J Jx c hJ
  refine Cx_of Try.func93 rfl Try.ntmps93 rfl fun w0 M0 => ?_
  refine JC_seq ?_
  refine JC_seq ?_
  refine JC_draw [] (by kernel_rfl) ?_
  refine JA_dt (i := 0) rfl (by kernel_rfl) (by kernel_rfl) rfl rfl (det_loadK rfl Try.isAgg104 rfl) ?_
  refine JA_pd (i := 1) rfl (by kernel_rfl) rfl rfl (det_nilCheck rfl) ?_
  refine JA_pd (i := 2) rfl (by kernel_rfl) rfl rfl (det_fieldAddr rfl fo_130_1) ?_
  refine JA_dt (i := 3) rfl (by kernel_rfl) (by kernel_rfl) rfl rfl (det_loadK rfl Try.isAgg128 rfl) ?_
  refine JA_dt (i := 4) rfl (by kernel_rfl) (by kernel_rfl) rfl rfl (det_loadKA rfl Try.isAgg77 Try.sizeOf77 rfl rfl) ?_
  refine JA_dt (i := 5) rfl (by kernel_rfl) (by kernel_rfl) rfl rfl (det_loadK rfl Try.isAgg3 rfl) ?_
  refine JA_one (i := 6) (by kernel_rfl) rfl rfl (jo_callv rfl rfl Try.call68 rfl (at_j s g)) (fun _ => ⟨hsub_refl, fun _ h => h⟩) fun _ => ?_
  refine JA_dt (i := 7) rfl (by kernel_rfl) (by kernel_rfl) rfl rfl (det_lookupBK (ek := ekLk) (lockAt s g) rfl rfl goodLk Try.underlying128 Try.zeroValue4) ?_
  refine JA_done (by kernel_rfl) ?_
  refine JE_seq ?_
  -- stop: cond
  refine JC_cond rfl (fun h1 => ?_) (fun h1 => ?_)
  · have hn : nextL m m.locks s g = [] := by
      unfold nextL; rw [if_pos]
      unfold lkM at h1
      split at h1
      · assumption
      · cases h1
    refine JC_ret ?_
    refine JE_seq_ret ?_
    -- stop: out
    refine JE_out (.inl rfl) (_, true, [], c) (results0 Try.results93 ) rfl pick_perm (fun w h => by rw [hn, if_pos rfl]; exact hJ)
  · have hn : nextL m m.locks s g = moves m s g := by
      unfold nextL; rw [if_neg]
      unfold lkM at h1
      split at h1
      · cases h1
      · assumption
    rw [hn] at hy ⊢
    refine JC_skip ?_
    refine JE_seq ?_
    refine JC_draw [8] (by kernel_rfl) ?_
    refine JA_dt (i := 0) rfl (by kernel_rfl) (by kernel_rfl) rfl rfl (det_loadK rfl Try.isAgg104 rfl) ?_
    refine JA_pd (i := 1) rfl (by kernel_rfl) rfl rfl (det_nilCheck rfl) ?_
    refine JA_pd (i := 2) rfl (by kernel_rfl) rfl rfl (det_fieldAddr rfl fo_130_0) ?_
    refine JA_dt (i := 3) rfl (by kernel_rfl) (by kernel_rfl) rfl rfl (det_loadKA rfl Try.isAgg34 Try.sizeOf34 rfl rfl) ?_
    refine JA_dt (i := 4) rfl (by kernel_rfl) (by kernel_rfl) rfl rfl (det_loadKA rfl Try.isAgg77 Try.sizeOf77 rfl rfl) ?_
    refine JA_dt (i := 5) rfl (by kernel_rfl) (by kernel_rfl) rfl rfl (det_loadK rfl Try.isAgg3 rfl) ?_
    refine JA_pd (i := 7) rfl (by kernel_rfl) rfl rfl (det_move rfl) ?_
    refine JA_one (i := 6) (by kernel_rfl) rfl rfl (jo_call rfl rfl Try.call67 rfl (moves_j m a s g)) (fun _ => ⟨hsub_drop 0 rfl, fun _ h => h.2⟩) fun x19 => ?_
    -- stop: op  8 t21 := (call (Call (value t19) (t20) (109)))   <6 7 6>   150
    refine JA_tail (i := 8) (by kernel_rfl) rfl rfl rfl rfl (jo_callx rfl rfl Try.call88 rfl (hit x19.1 x19.2.1 x19.2.2 hy) (pick_perm)) fun ⟨v, bb, p, c'⟩ => ?_
    refine JT_done (by kernel_rfl) ?_
    -- stop: out
    refine JE_out (.inr rfl) (_, bb, p, c') (results0 Try.results93 ) rfl (List.Perm.refl _) (fun w h => h.1)
end Go.Proofs.Ytgbfjcgjcnndpaa

/- Plain words for cycle: how all that can be is gone through. Nothing is asked. -/
namespace Go.Proofs.Ytgbfjcgjcnndpaa
open Go.RowKit Go.Shelf

/-- From one stand on. -/
inductive From (m : Mc) (ls : List Lk) (s : Sd) : Sd → Prop
  | refl : From m ls s s
  | step {t u : Sd} : From m ls s t → Stp m ls t u → From m ls s u
theorem From.trans {m : Mc} {ls : List Lk} {s t u : Sd} (h : From m ls s t) (k : From m ls t u) : From m ls s u := by
  induction k with
  | refl => exact h
  | step _ k ih => exact .step ih k
theorem From.one {m : Mc} {ls : List Lk} {s t : Sd} (h : Stp m ls s t) : From m ls s t := .step .refl h
theorem From.rch {m : Mc} {ls : List Lk} {s t : Sd} (h : From m ls s t) (k : Rch m ls s) : Rch m ls t := by
  induction h with
  | refl => exact k
  | step _ h ih => exact .step ih h
theorem Rch.from_ {m : Mc} {ls : List Lk} {t : Sd} (h : Rch m ls t) : From m ls ⟨0, 0⟩ t := by
  induction h with
  | zero => exact .refl
  | step _ h ih => exact .step ih h
/-- What a visit of s makes of the stands seen. -/
structure Vis (m : Mc) (w : Nat → Bool) (s : Sd) (w' : Nat → Bool) : Prop where
  mono : ∀ i, w i = true → w' i = true
  has : w' (ix s) = true
  only : ∀ i, i < 24 → w' i = true → w i = true ∨ From m m.locks s (sdOf i)
  closed : ∀ i, i < 24 → w' i = true → w i = false → ∀ t, Stp m m.locks (sdOf i) t → w' (ix t) = true
def unseen (w : Nat → Bool) : Nat := (List.range 24).countP fun i => !w i
theorem unseen_le {w w' : Nat → Bool} (h : ∀ i, w i = true → w' i = true) : unseen w' ≤ unseen w := by
  unfold unseen
  refine List.countP_mono_left fun i _ hi => ?_
  cases hw : w i
  · rfl
  · rw [h i hw] at hi; cases hi
theorem countP_lt {α : Type} {p q : α → Bool} : ∀ {l : List α}, (∀ x ∈ l, p x = true → q x = true) → (∃ x ∈ l, q x = true ∧ p x = false) → l.countP p < l.countP q
  | a :: l, h, ⟨x, hx, h1, h2⟩ => by
    have hle : l.countP p ≤ l.countP q := List.countP_mono_left fun y hy => h y (List.mem_cons_of_mem _ hy)
    rcases List.mem_cons.1 hx with rfl | hx
    · rw [List.countP_cons_of_neg (by simp [h2]), List.countP_cons_of_pos h1]; omega
    · have ih := countP_lt (fun y hy => h y (List.mem_cons_of_mem _ hy)) ⟨x, hx, h1, h2⟩
      have ha := h a List.mem_cons_self
      rw [List.countP_cons, List.countP_cons]
      cases hp : p a
      · simp; omega
      · rw [ha hp]; simp; omega
theorem unseen_upd {w : Nat → Bool} {i : Nat} (h : w i = false) (hi : i < 24) : unseen (updW w i true) < unseen w := by
  unfold unseen
  refine countP_lt (fun j _ hj => ?_) ⟨i, List.mem_range.2 hi, by simp [h], by simp [updW]⟩
  unfold updW at hj
  by_cases e : j = i
  · rw [if_pos e] at hj; cases hj
  · rwa [if_neg e] at hj
/-- Between the signals, and between what comes next. -/
structure Mid (m : Mc) (w : Nat → Bool) (s : Sd) (g : Nat) (pre : List Sd) (w2 : Nat → Bool) : Prop where
  mono : ∀ i, w i = true → w2 i = true
  has : w2 (ix s) = true
  only : ∀ i, i < 24 → w2 i = true → w i = true ∨ From m m.locks s (sdOf i)
  closed : ∀ i, i < 24 → w2 i = true → w i = false → i ≠ ix s → ∀ t, Stp m m.locks (sdOf i) t → w2 (ix t) = true
  done : ∀ g' : Nat, g' < g → ∀ t ∈ nextL m m.locks s (g' : Int), w2 (ix t) = true
  now : ∀ t ∈ pre, w2 (ix t) = true
theorem Mid.start {m : Mc} {w : Nat → Bool} {s : Sd} (hs : sdOf (ix s) = s) : Mid m w s 0 [] (updW w (ix s) true) := by
  refine ⟨fun i h => ?_, by simp [updW], fun i _ h => ?_, fun i _ h h0 hne => ?_, fun _ h => by omega, by simp⟩
  · unfold updW; split <;> simp_all
  · unfold updW at h
    by_cases e : i = ix s
    · subst e; rw [hs]; exact .inr .refl
    · rw [if_neg e] at h; exact .inl h
  · unfold updW at h; rw [if_neg hne, h0] at h; cases h
/-- One more comes next. -/
theorem Mid.visit {m : Mc} {w w2 w3 : Nat → Bool} {s t : Sd} {g : Nat} {pre : List Sd} (h : Mid m w s g pre w2) (hg : g < 8) (ht : t ∈ nextL m m.locks s (g : Int)) (hv : Vis m w2 t w3) : Mid m w s g (pre ++ [t]) w3 := by
  refine ⟨fun i hi => hv.mono i (h.mono i hi), hv.mono _ h.has, fun i hi h3 => ?_, fun i hi h3 h0 hne u hu => ?_, fun g' hg' u hu => hv.mono _ (h.done g' hg' u hu), fun u hu => ?_⟩
  · rcases hv.only i hi h3 with h2 | h2
    · exact h.only i hi h2
    · exact .inr ((From.one ⟨g, hg, ht⟩).trans h2)
  · cases h2 : w2 i
    · exact hv.closed i hi h3 h2 u hu
    · exact hv.mono _ (h.closed i hi h2 h0 hne u hu)
  · rcases List.mem_append.1 hu with hu | hu
    · exact hv.mono _ (h.now u hu)
    · rw [List.mem_singleton.1 hu]; exact hv.has
theorem Mid.next {m : Mc} {w w2 : Nat → Bool} {s : Sd} {g : Nat} (h : Mid m w s g (nextL m m.locks s (g : Int)) w2) : Mid m w s (g + 1) [] w2 :=
  ⟨h.mono, h.has, h.only, h.closed, fun g' hg' t ht => by
    by_cases e : g' = g
    · subst e; exact h.now t ht
    · exact h.done g' (by omega) t ht, by simp⟩
theorem Mid.pre {m : Mc} {w w2 : Nat → Bool} {s : Sd} {g : Nat} (h : Mid m w s g [] w2) : Mid m w s g [] w2 := h
theorem Mid.vis {m : Mc} {w w2 : Nat → Bool} {s : Sd} (hs : sdOf (ix s) = s) (h : Mid m w s 8 [] w2) : Vis m w s w2 :=
  ⟨h.mono, h.has, h.only, fun i hi h2 h0 t ht => by
    by_cases e : i = ix s
    · subst e
      rw [hs] at ht
      obtain ⟨g, hg, ht⟩ := ht
      exact h.done g hg t ht
    · exact h.closed i hi h2 h0 e t ht⟩
theorem Vis.refl {m : Mc} {w : Nat → Bool} {s : Sd} (h : w (ix s) = true) : Vis m w s w := ⟨fun _ h => h, h, fun _ _ h => .inl h, fun _ _ h h0 => by rw [h] at h0; cases h0⟩
/-- From nothing on: all that can be. -/
theorem Vis.all {m : Mc} (V : Valid m) {w' : Nat → Bool} (h : Vis m (fun _ => false) ⟨0, 0⟩ w') {i : Nat} (hi : i < 24) : w' i = true ↔ Rch m m.locks (sdOf i) := by
  constructor
  · intro hw
    rcases h.only i hi hw with h | h
    · cases h
    · exact h.rch .zero
  · intro hr
    have key : ∀ t, Rch m m.locks t → w' (ix t) = true := by
      intro t ht
      induction ht with
      | zero => exact h.has
      | step hs hst ih =>
        have hin := hs.inM V
        have s2 := V.s2
        obtain ⟨p1, p2, p3, p4⟩ := hin
        have e := sd_ix p1 p3 p4
        exact h.closed _ (ix_lt p1 (by omega) p3 p4) ih rfl _ (by rw [e]; exact hst)
    have := key _ hr
    rwa [ix_sd] at this
end Go.Proofs.Ytgbfjcgjcnndpaa

/- Walks of cycle: what can be. -/
namespace Go.Proofs.Ytgbfjcgjcnndpaa
open Go.RowKit Go.Shelf

set_option maxRecDepth 100000 in
set_option maxHeartbeats 1000000 in
theorem visit_j (m : Mc) (a : MA) (b mb o hb vb : Nat) (V : Valid m) : ∀ (n : Nat) (w : Nat → Bool) (s : Sd), InM m s → unseen w ≤ n →
    Cx Try.prog 84 [.agg #[I s.st, I s.sp], pt o, pt hb, pt vb] [bx o (encW 24 w)] (KAnd (KBox hb [pt b]) (KAnd (KBox vb [.func (.func 84) #[] #[pt o, pt hb, pt vb]]) (KHall m a b mb)))
      (fun _ : { w' // Vis m w s w' } => .tuple #[]) (fun w' => [bx o (encW 24 w'.1)]) (fun _ => KTrue) := by
  intro n
  induction n using Nat.strongRecOn
  rename_i n IH
  intro w s hin hn
  have s2 := V.s2
  have hl := V.ns
  obtain ⟨p1, p2, p3, p4⟩ := hin
  have hix := ix_lt p1 (by omega) p3 p4
  have hsd := sd_ix p1 p3 p4
  have hoff : 0 + s.st.toNat * 3 + s.sp.toNat * 1 = ix s := by unfold ix; omega
  refine Cx_of Try.func84 rfl Try.ntmps84 rfl fun w0 M0 => ?_
  refine JC_seq ?_
  refine JC_region ?_
  refine JL_step rfl rfl rfl (jo_box rfl rfl) fun b4 => ?_
  refine JL_nil ?_
  refine JE_seq ?_
  refine JC_seq ?_
  refine JC_seq ?_
  refine JC_draw [] (by kernel_rfl) ?_
  refine JA_pd (i := 0) rfl (by kernel_rfl) rfl rfl (det_fieldAddr rfl fo_77_0) ?_
  refine JA_dt (i := 1) rfl (by kernel_rfl) (by kernel_rfl) rfl rfl (det_loadK rfl Try.isAgg3 rfl) ?_
  refine JA_pd (i := 2) rfl (by kernel_rfl) rfl rfl (det_fieldAddr rfl fo_77_1) ?_
  refine JA_dt (i := 3) rfl (by kernel_rfl) (by kernel_rfl) rfl rfl (det_loadK rfl Try.isAgg3 rfl) ?_
  refine JA_pd (i := 4) rfl (by kernel_rfl) rfl rfl (det_indexArr (i := s.st.toNat) rfl rfl (by omega) (by omega) Try.runUnderlying103 Try.sizeOf43) ?_
  refine JA_pd (i := 5) rfl (by kernel_rfl) rfl rfl (det_indexArr (i := s.sp.toNat) rfl rfl (by omega) (by omega) Try.runUnderlying43 Try.sizeOf4) ?_
  refine JA_dt (i := 6) rfl (by kernel_rfl) (by kernel_rfl) rfl rfl (det_loadK (v := .bool (w (ix s))) rfl Try.isAgg4 (by rw [hoff]; exact encW_get hix)) ?_
  refine JA_done (by kernel_rfl) ?_
  refine JE_seq ?_
  -- stop: cond
  refine JC_cond rfl (fun h1 => ?_) (fun h1 => ?_)
  · refine JC_ret ?_
    refine JE_seq_ret ?_
    -- stop: out
    refine JE_out (.inl rfl) ⟨w, .refl h1⟩ (results0 Try.results84 ) rfl pick_perm (fun _ _ => trivial)
  · have hun := unseen_upd h1 hix
    refine JC_skip ?_
    refine JE_seq ?_
    refine JC_seq ?_
    refine JC_draw [6] (by kernel_rfl) ?_
    refine JA_pd (i := 0) rfl (by kernel_rfl) rfl rfl (det_fieldAddr rfl fo_77_0) ?_
    refine JA_dt (i := 1) rfl (by kernel_rfl) (by kernel_rfl) rfl rfl (det_loadK rfl Try.isAgg3 rfl) ?_
    refine JA_pd (i := 2) rfl (by kernel_rfl) rfl rfl (det_fieldAddr rfl fo_77_1) ?_
    refine JA_dt (i := 3) rfl (by kernel_rfl) (by kernel_rfl) rfl rfl (det_loadK rfl Try.isAgg3 rfl) ?_
    refine JA_pd (i := 4) rfl (by kernel_rfl) rfl rfl (det_indexArr (i := s.st.toNat) rfl rfl (by omega) (by omega) Try.runUnderlying103 Try.sizeOf43) ?_
    refine JA_pd (i := 5) rfl (by kernel_rfl) rfl rfl (det_indexArr (i := s.sp.toNat) rfl rfl (by omega) (by omega) Try.runUnderlying43 Try.sizeOf4) ?_
    refine JA_tail (i := 6) (by kernel_rfl) rfl rfl rfl rfl (jo_store (vs := [.bool true]) (cs := encW 24 w) (cs' := encW 24 (updW w (ix s) true)) rfl rfl rfl (by rw [hoff]; exact encW_set 24 w (ix s) true) Try.sizeOf4 (Nat.ble_eq_true_of_le (by rw [encW_len, hoff]; exact hix)) rfl) fun _ => ?_
    refine JT_done (by kernel_rfl) ?_
    refine JE_seq ?_
    refine JC_seq ?_
    refine JC_region ?_
    refine JL_pd rfl (det_move rfl) ?_
    refine JL_nil ?_
    refine JE_seq ?_
    refine JC_block ?_
    -- stop: loop
    refine JC_loopF (γ := Nat × { w2 : Nat → Bool // ∀ i, updW w (ix s) true i = true → w2 i = true }) (fun q => q.1 ≤ 8 ∧ Mid m w s q.1 [] q.2.1) (fun q => [(20, I q.1)]) (fun q => [bx o (encW 24 q.2.1)]) (fun q => 8 - q.1) (0, ⟨_, fun _ h => h⟩) ⟨Nat.zero_le _, .start hsd⟩ (stsub_consI rfl rfl stsub_nil) (ht_cons ht_nil) ?_
    rintro ⟨g, w2, hw2⟩ ⟨hg, hmid⟩ K hK
    dsimp only [List.cons_append, List.nil_append] at hg hmid ⊢
    refine JC_seq ?_
    refine JC_region ?_
    refine JL_pd rfl (det_lss rfl rfl) ?_
    refine JL_nil ?_
    refine JE_seq ?_
    refine JC_seq ?_
    -- stop: cond
    refine JC_if rfl (fun h2 => ?_) (fun h2 => ?_)
    · have hg2 : g < 8 := by omega
      refine JC_skip ?_
      refine JE_seq ?_
      refine JC_seq ?_
      refine JC_block ?_
      refine JC_seq ?_
      refine JC_region ?_
      refine JL_pd rfl (det_move rfl) ?_
      refine JL_pd rfl (det_assign rfl) ?_
      refine JL_nil ?_
      refine JE_seq ?_
      refine JC_seq ?_
      refine JC_region ?_
      refine JL_dt rfl (det_loadK rfl Try.isAgg104 rfl) ?_
      refine JL_dt rfl (det_loadKA rfl Try.isAgg77 Try.sizeOf77 rfl rfl) ?_
      refine JL_pd rfl (det_move rfl) ?_
      refine JL_step rfl rfl rfl (jo_call rfl rfl Try.call74 rfl (next_j b s _)) fun x26 => ?_
      refine JL_nil ?_
      refine JE_seq ?_
      refine JC_block ?_
      -- stop: rangeFunc
      have hit := next_it m a s (g : Int) b mb x26.1 x26.2.1 x26.2.2 (by omega) (by omega)
      refine JC_rangeI (γ := { w3 : Nat → Bool // ∀ i, updW w (ix s) true i = true → w3 i = true }) (β := Nat) rfl rfl rfl rfl Try.call93 hit (perm1 (bx o (encW 24 w2))) (fun w _ h => ⟨h.1, h.2.2.2⟩) (fun _ => rfl) ?_
        (fun p w3 => Mid m w s g p w3.1) (fun _ _ _ => False) (fun w3 => [bx o (encW 24 w3.1)]) ⟨w2, hw2⟩ hmid rfl
        (fun x t => [(6, pt t), (3, pt vb)]) (fun x t => [bx t [I x.st, I x.sp]]) ?_ ?_ ?_ ?_
      · show ∀ p ∈ [27], p < 32
        decide
      · intro l' x W K0 hK0
        refine JC_region ?_
        refine JL_step rfl rfl rfl (jo_alloc0 Try.zeroValue77 rfl) fun b6 => ?_
        refine JL_step0 rfl rfl (jo_store rfl rfl rfl (by first | (simp only [splice_norm]; done) | (simp only [splice_norm]; rfl) | rfl) Try.sizeOf77 rfl rfl) fun _ => ?_
        refine JL_nil ?_
        -- stop: end
        exact JE_asg (hK0 b6) (stsub_cons rfl (stsub_cons rfl stsub_nil)) (hsub_cons hsub_nil) (fun _ h => trivial)
      · rintro l' p x ⟨w3, hw3⟩ t W K1 QX hmid3 hpx hK1 _
        have hx : x ∈ nextL m m.locks s (g : Int) := hpx.subset (by simp)
        have hle := unseen_le hw3
        refine JC_block ?_
        refine JC_region ?_
        refine JL_dt rfl (det_loadK rfl Try.isAgg131 rfl) ?_
        refine JL_dt rfl (det_loadKA rfl Try.isAgg77 Try.sizeOf77 rfl rfl) ?_
        -- stop: op  2 t30 := (call (Call (value t28) (t29) (77)))   <0 1>   164
        refine JL_step rfl rfl rfl (jo_callx rfl rfl Try.call84 rfl (IH (unseen w3) (by omega) w3 x (next_in V ⟨p1, p2, p3, p4⟩ hx) (Nat.le_refl _)) (pick_perm)) fun w4 => ?_
        refine JL_nil ?_
        refine JE_block ?_
        -- stop: end
        refine JE_next (fun st' R' a' W' => hK1 ⟨w4.1, fun i hi => w4.2.mono i (hw3 i hi)⟩ (hmid3.visit hg2 hx w4.2) st' R' a' W') (hsub_cons hsub_nil)
      · rintro ⟨w3, hw3⟩ hmid3
        refine JE_block ?_
        refine JE_block ?_
        refine JE_seq ?_
        refine JC_region ?_
        refine JL_pd rfl (det_add rfl rfl ⟨by omega, by omega⟩) ?_
        refine JL_pd rfl (det_move rfl) ?_
        refine JL_nil ?_
        -- stop: end
        refine JE_roundF hK (g + 1, ⟨w3, hw3⟩) ⟨by simp only; omega, hmid3.next⟩ (by simp only; omega) (stsub_consI rfl (by simp only; omega) stsub_nil) (ht_cons ht_nil)
      · rintro cd p w3 _ h
        exact h.elim
    · obtain rfl : g = 8 := by omega
      refine JC_exit ?_
      refine JE_seq_exit ?_
      refine JE_then_exit ?_
      refine JE_block_here ?_
      -- stop: out
      refine JE_out (.inr rfl) ⟨w2, hmid.vis hsd⟩ (results0 Try.results84 ) rfl pick_perm (fun _ _ => trivial)
end Go.Proofs.Ytgbfjcgjcnndpaa

/- Walks of cycle: reach. -/
namespace Go.Proofs.Ytgbfjcgjcnndpaa
open Go.RowKit Go.Shelf

theorem splice_over : ∀ (vs xs pre : List Value), xs.length = vs.length → splice (pre ++ xs) pre.length vs = pre ++ vs
  | [], xs, pre, h => by
    obtain rfl := List.length_eq_zero_iff.1 h
    rfl
  | v :: vs, [], pre, h => by simp at h
  | v :: vs, x :: xs, pre, h => by
    have e : (pre ++ x :: xs).set pre.length v = (pre ++ [v]) ++ xs := by simp
    show splice ((pre ++ x :: xs).set pre.length v) (pre.length + 1) vs = _
    rw [e]
    have := splice_over vs xs (pre ++ [v]) (by simpa using h)
    simpa using this
theorem splice_whole {xs vs : List Value} (h : xs.length = vs.length) : splice xs 0 vs = vs := splice_over vs xs [] h
set_option maxRecDepth 100000 in
theorem reach_j (m : Mc) (a : MA) (b mb : Nat) (V : Valid m) : Cr Try.prog 60 [pt b] (KHall m a b mb) (fun w' : { w' // Vis m (fun _ => false) ⟨0, 0⟩ w' } => .agg (encW 24 w'.1).toArray) (fun _ => KTrue) := by
  refine Cx_of Try.func60 rfl Try.ntmps60 rfl fun w0 M0 => ?_
  refine JC_seq ?_
  refine JC_region ?_
  refine JL_step rfl rfl rfl (jo_box rfl rfl) fun b1 => ?_
  refine JL_step rfl rfl rfl (jo_alloc0 Try.zeroValue103 rfl) fun b2 => ?_
  refine JL_nil ?_
  refine JE_seq ?_
  refine JC_seq ?_
  refine JC_region ?_
  refine JL_step rfl rfl rfl (jo_alloc0 Try.zeroValue131 rfl) fun b3 => ?_
  refine JL_nil ?_
  refine JE_seq ?_
  refine JC_seq ?_
  refine JC_region ?_
  refine JL_pd rfl (det_makeFuncE rfl rfl) ?_
  refine JL_step0 rfl rfl (jo_store rfl rfl rfl (by first | (simp only [splice_norm]; done) | (simp only [splice_norm]; rfl) | rfl) Try.sizeOf131 rfl rfl) fun _ => ?_
  refine JL_nil ?_
  refine JE_seq ?_
  refine JC_seq ?_
  refine JC_region ?_
  refine JL_dt rfl (det_loadK rfl Try.isAgg131 rfl) ?_
  refine JL_keep b1 noFp ?_
  refine JL_keep b3 noFp ?_
  refine JL_pd rfl (det_build rfl (bld_77)) ?_
  -- stop: op  2 t7 := (call (Call (value t5) (t6) (77)))   <0 1>   168
  refine JL_step rfl rfl rfl (jo_callx rfl rfl Try.call84 rfl (visit_j m a b mb b2 b1 b3 V _ (fun _ => false) ⟨0, 0⟩ (zero_in V) (Nat.le_refl _)) ((show List.Perm [bx b2 (encW 24 fun _ => false)] ([bx b2 (encW 24 fun _ => false)] ++ []) from List.Perm.refl _))) fun w7 => ?_
  refine JL_nil ?_
  refine JE_seq ?_
  refine JC_seq ?_
  refine JC_region ?_
  refine JL_dt rfl (det_loadKA (vs := encW 24 w7.1) rfl Try.isAgg103 Try.sizeOf103 (by rw [List.drop_zero]; exact List.take_of_length_le (by rw [encW_len]; decide)) (encW_len 24 _)) ?_
  refine JL_step0 rfl rfl (jo_store (vs := encW 24 w7.1) (cs := encW 24 w7.1) (cs' := encW 24 w7.1) rfl rfl rfl (splice_whole rfl) Try.sizeOf103 (Nat.ble_eq_true_of_le (by rw [encW_len]; decide)) (encW_cells 24 _)) fun _ => ?_
  refine JL_nil ?_
  refine JE_seq ?_
  refine JC_ret ?_
  -- stop: out
  refine JE_out (.inl rfl) w7 (results1 Try.results60 (res_box rfl Try.isAgg103 Try.sizeOf103 rfl)) rfl (List.Perm.refl _) (fun _ _ => trivial)
end Go.Proofs.Ytgbfjcgjcnndpaa
