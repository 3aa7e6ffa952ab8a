/- Own texts, laid together: T1 T2 T3 T4 T5 T6. Nothing is asked. -/
import Derived.Test.YthpkgabckklojaaH5
import Derived.Test.YthpkgabckklojaaH4
set_option linter.unusedSimpArgs false
set_option linter.unusedVariables false
/- League: schedules, plain: who meets, lanes by rounds. Nothing is asked. -/
namespace Go.Proofs.Ythpkgabckklojaa.Bl
open Go.RowKit Go.Shelf

def evn (n : Nat) : Nat := n + n % 2
def mta (n r i : Nat) : Nat := (r + i) % (evn n - 1)
def mtb (n r i : Nat) : Nat := if i = 0 then evn n - 1 else (r + (evn n - 1) - i) % (evn n - 1)
/-- The teams of the j-th match of a round: the lesser one, the greater one. -/
def mA (n r j : Nat) : Nat := min (mta n r (j + n % 2)) (mtb n r (j + n % 2))
def mB (n r j : Nat) : Nat := max (mta n r (j + n % 2)) (mtb n r (j + n % 2))
theorem mt_lt {n r j : Nat} (h0 : 2 ≤ n) (hj : j < n / 2) : mta n r (j + n % 2) < n ∧ mtb n r (j + n % 2) < n := by
  have e : 0 < evn n - 1 := by unfold evn; omega
  have h1 : mta n r (j + n % 2) < evn n - 1 := Nat.mod_lt _ e
  have h3 : evn n - 1 ≤ n := by unfold evn; omega
  refine ⟨by omega, ?_⟩
  unfold mtb
  split
  · have : n % 2 = 0 := by omega
    unfold evn; omega
  · have h2 : (r + (evn n - 1) - (j + n % 2)) % (evn n - 1) < evn n - 1 := Nat.mod_lt _ e
    omega
theorem mA_lt {n r j : Nat} (h0 : 2 ≤ n) (hj : j < n / 2) : mA n r j < n := by
  have := mt_lt (r := r) h0 hj
  unfold mA; omega
theorem mB_lt {n r j : Nat} (h0 : 2 ≤ n) (hj : j < n / 2) : mB n r j < n := by
  have := mt_lt (r := r) h0 hj
  unfold mB; omega
/-- A match, as three cells. -/
def mC (n : Nat) (q : Nat → Nat → Nat) (r j : Nat) : List Value := [I (mA n r j), I (mB n r j), I (q r j)]
def rowM (n : Nat) (q : Nat → Nat → Nat) (m r : Nat) : List Value := (List.range m).flatMap (mC n q r)
instance (n : Nat) (q : Nat → Nat → Nat) (r : Nat) : Rec (mC n q r) 3 := ⟨fun _ => rfl, by decide⟩
theorem rowM_len (n : Nat) (q : Nat → Nat → Nat) (m r : Nat) : (rowM n q m r).length = m * 3 := by
  unfold rowM
  rw [flat_len, List.length_range]
theorem rowM_succ (n : Nat) (q : Nat → Nat → Nat) (m r : Nat) : rowM n q (m + 1) r = rowM n q m r ++ mC n q r m := by
  unfold rowM
  rw [List.range_succ, List.flatMap_append, List.flatMap_cons, List.flatMap_nil, List.append_nil]
theorem rowM_rec (n : Nat) (q : Nat → Nat → Nat) (m r j : Nat) (h : j < m) : ((rowM n q m r).drop (j * 3)).take 3 = mC n q r j := by
  unfold rowM
  rw [flat_rec (mC n q r) _ j (by simpa using h)]
  simp
theorem rowM_get (n : Nat) (q : Nat → Nat → Nat) (m r j c : Nat) (h : j < m) (hc : c < 3) : (rowM n q m r)[j * 3 + c]? = (mC n q r j)[c]? := by
  rw [← rowM_rec n q m r j h, List.getElem?_take, if_pos hc, List.getElem?_drop]
def updQ (q : Nat → Nat → Nat) (r j v : Nat) : Nat → Nat → Nat := fun r' j' => if r' = r ∧ j' = j then v else q r' j'
theorem updQ_at (q : Nat → Nat → Nat) (r j v : Nat) : updQ q r j v r j = v := if_pos ⟨rfl, rfl⟩
theorem updQ_ne (q : Nat → Nat → Nat) (r j v : Nat) {r' j' : Nat} (h : ¬ (r' = r ∧ j' = j)) : updQ q r j v r' j' = q r' j' := if_neg h
theorem rowM_set (n : Nat) (q : Nat → Nat → Nat) (m r j v : Nat) (h : j < m) : splice (rowM n q m r) (j * 3 + 2) [I v] = rowM n (updQ q r j v) m r := by
  show (rowM n q m r).set (j * 3 + 2) (I v) = _
  apply List.ext_getElem?
  intro k
  rw [List.getElem?_set]
  by_cases hk : k < m * 3
  · obtain ⟨j', c, hc, rfl⟩ : ∃ j' c, c < 3 ∧ k = j' * 3 + c := ⟨k / 3, k % 3, by omega, by omega⟩
    have hj' : j' < m := by omega
    rw [rowM_get _ _ _ _ _ _ hj' hc, rowM_get _ _ _ _ _ _ hj' hc]
    by_cases e : j * 3 + 2 = j' * 3 + c
    · obtain ⟨rfl, rfl⟩ : j = j' ∧ c = 2 := by omega
      rw [if_pos rfl, if_pos (by rw [rowM_len]; omega)]
      show _ = some (I (updQ q r j v r j : Nat))
      rw [updQ_at]
    · rw [if_neg e]
      rcases (by omega : c = 0 ∨ c = 1 ∨ c = 2) with rfl | rfl | rfl
      · rfl
      · rfl
      · show some (I (q r j' : Nat)) = some (I (updQ q r j v r j' : Nat))
        rw [updQ_ne _ _ _ _ (by omega)]
  · have e1 : (rowM n q m r)[k]? = none := List.getElem?_eq_none (by rw [rowM_len]; omega)
    have e2 : (rowM n (updQ q r j v) m r)[k]? = none := List.getElem?_eq_none (by rw [rowM_len]; omega)
    rw [e1, e2, rowM_len]
    split
    · rw [if_neg (by omega)]
    · rfl
theorem rowM_other (n : Nat) (q : Nat → Nat → Nat) (m r j v : Nat) {r' : Nat} (h : r' ≠ r) : rowM n q m r' = rowM n (updQ q r j v) m r' := by
  unfold rowM
  congr 1
  funext k
  unfold mC
  rw [updQ_ne _ _ _ _ (by omega)]
/-- The first lanes of a round are lanes, each another one. -/
def GoodR (H m : Nat) (f : Nat → Nat) : Prop := ∀ i, i < m → f i < H ∧ ∀ j, j < i → f j ≠ f i
/-- What is laid ahead of a place. -/
structure Laid (H : Nat) (round at_ : Nat) (q : Nat → Nat → Nat) : Prop where
  rows : ∀ r, r < round → GoodR H H (q r)
  row : GoodR H at_ (q round)
/-- Two fillings are alike ahead of a place. -/
def Ahead (round at_ : Nat) (q q' : Nat → Nat → Nat) : Prop := (∀ r j, r < round → q' r j = q r j) ∧ ∀ j, j < at_ → q' round j = q round j
theorem Ahead.refl (round at_ : Nat) (q : Nat → Nat → Nat) : Ahead round at_ q q := ⟨fun _ _ _ => rfl, fun _ _ => rfl⟩
theorem Ahead.trans {round at_ : Nat} {q q' q'' : Nat → Nat → Nat} (h : Ahead round at_ q q') (k : Ahead round at_ q' q'') : Ahead round at_ q q'' := ⟨fun r j hr => (k.1 r j hr).trans (h.1 r j hr), fun j hj => (k.2 j hj).trans (h.2 j hj)⟩
theorem Ahead.upd (round at_ v : Nat) (q : Nat → Nat → Nat) : Ahead round at_ q (updQ q round at_ v) := ⟨fun r j hr => updQ_ne _ _ _ _ (by omega), fun j hj => updQ_ne _ _ _ _ (by omega)⟩
theorem Ahead.less {round at_ : Nat} {q q' : Nat → Nat → Nat} (h : Ahead round (at_ + 1) q q') : Ahead round at_ q q' := ⟨h.1, fun j hj => h.2 j (by omega)⟩
theorem Ahead.next {round at_ : Nat} {q q' : Nat → Nat → Nat} (h : Ahead (round + 1) 0 q q') : Ahead round at_ q q' := ⟨fun r j hr => h.1 r j (by omega), fun j _ => h.1 _ _ (by omega)⟩
theorem Laid.of_ahead {H round at_ : Nat} {q q' : Nat → Nat → Nat} (h : Laid H round at_ q) (k : Ahead round at_ q q') : Laid H round at_ q' := by
  refine ⟨fun r hr i hi => ?_, fun i hi => ?_⟩
  · rw [k.1 _ _ hr]
    exact ⟨(h.rows r hr i hi).1, fun j hj => by rw [k.1 _ _ hr]; exact (h.rows r hr i hi).2 j hj⟩
  · rw [k.2 _ hi]
    exact ⟨(h.row i hi).1, fun j hj => by rw [k.2 _ (by omega)]; exact (h.row i hi).2 j hj⟩
theorem Laid.next {H round : Nat} {q : Nat → Nat → Nat} (h : Laid H round H q) : Laid H (round + 1) 0 q :=
  ⟨fun r hr => by rcases (by omega : r < round ∨ r = round) with e | rfl; exact h.rows r e; exact h.row, fun i hi => absurd hi (Nat.not_lt_zero i)⟩
/-- Which lanes a round has already. -/
def Tk (H at_ : Nat) (f : Nat → Nat) (tk : Nat → Bool) : Prop := ∀ l, l < H → (tk l = true ↔ ∃ j, j < at_ ∧ f j = l)
def updB (f : Nat → Bool) (i : Nat) (x : Bool) : Nat → Bool := fun j => if j = i then x else f j
theorem updB_back (f : Nat → Bool) (i : Nat) (x : Bool) (h : f i = x) (y : Bool) : updB (updB f i y) i x = f := by
  funext j
  unfold updB
  split
  · rename_i e; rw [e, h]
  · rfl
theorem updP_back (f : Nat → Int) (i : Nat) (x y : Int) (h : f i = x) : updP (updP f i y) i x = f := by
  funext j
  unfold updP
  split
  · rename_i e; rw [e, h]
  · rfl
theorem Laid.step {H round at_ v : Nat} {q : Nat → Nat → Nat} {tk : Nat → Bool} (h : Laid H round at_ q) (ht : Tk H at_ (q round) tk) (hv : v < H) (hn : tk v = false) : Laid H round (at_ + 1) (updQ q round at_ v) := by
  have hk := h.of_ahead (Ahead.upd round at_ v q)
  refine ⟨hk.rows, fun i hi => ?_⟩
  by_cases e : i = at_
  · subst e
    rw [updQ_at]
    refine ⟨hv, fun j hj hq => ?_⟩
    rw [updQ_ne _ _ _ _ (by omega)] at hq
    rw [(ht v hv).2 ⟨j, hj, hq⟩] at hn
    cases hn
  · exact hk.row i (by omega)
theorem Tk.step {H round at_ v : Nat} {q : Nat → Nat → Nat} {tk : Nat → Bool} (ht : Tk H at_ (q round) tk) : Tk H (at_ + 1) (updQ q round at_ v round) (updB tk v true) := fun l hl => by
  unfold updB
  by_cases e : l = v
  · rw [if_pos e]
    exact ⟨fun _ => ⟨at_, by omega, by rw [updQ_at, e]⟩, fun _ => rfl⟩
  · rw [if_neg e, ht l hl]
    constructor
    · rintro ⟨j, hj, h⟩
      exact ⟨j, by omega, by rw [updQ_ne _ _ _ _ (by omega)]; exact h⟩
    · rintro ⟨j, hj, h⟩
      by_cases e2 : j = at_
      · subst e2; rw [updQ_at] at h; exact absurd h.symm e
      · rw [updQ_ne _ _ _ _ (by omega)] at h
        exact ⟨j, by omega, h⟩
theorem Tk.ahead {H round at_ : Nat} {q q' : Nat → Nat → Nat} {tk : Nat → Bool} (ht : Tk H at_ (q round) tk) (h : Ahead round at_ q q') : Tk H at_ (q' round) tk := fun l hl => by
  rw [ht l hl]
  exact ⟨fun ⟨j, hj, e⟩ => ⟨j, hj, by rw [h.2 j hj]; exact e⟩, fun ⟨j, hj, e⟩ => ⟨j, hj, by rw [← h.2 j hj]; exact e⟩⟩
theorem Tk.zero (H : Nat) (f : Nat → Nat) : Tk H 0 f fun _ => false := fun l _ => ⟨fun h => (by cases h), fun ⟨j, hj, _⟩ => (by omega)⟩
/-- Fewer lanes are taken than there are, so one is free. -/
theorem Tk.full {H at_ : Nat} {f : Nat → Nat} {tk : Nat → Bool} (ht : Tk H at_ f tk) (hH : H ≤ 3) (h : at_ < H) (ha : ∀ l, l < H → tk l = true) : False := by
  obtain ⟨j0, h0, e0⟩ := (ht 0 (by omega)).1 (ha 0 (by omega))
  by_cases c1 : H ≤ 1
  · omega
  · obtain ⟨j1, h1, e1⟩ := (ht 1 (by omega)).1 (ha 1 (by omega))
    by_cases c2 : H ≤ 2
    · obtain rfl : j0 = j1 := by omega
      omega
    · obtain ⟨j2, h2, e2⟩ := (ht 2 (by omega)).1 (ha 2 (by omega))
      rcases (by omega : j0 = j1 ∨ j0 = j2 ∨ j1 = j2) with rfl | rfl | rfl <;> omega
def encT (m : Nat) (f : Nat → Bool) : List Value := (List.range m).map fun i => .bool (f i)
theorem encT_len (n : Nat) (f : Nat → Bool) : (encT n f).length = n := by simp [encT]
theorem encT_get {n : Nat} {f : Nat → Bool} {i : Nat} (h : i < n) : (encT n f)[i * 1]? = some (.bool (f i)) := by
  rw [Nat.mul_one]; simp [encT, h]
theorem encT_set (n : Nat) (f : Nat → Bool) (i : Nat) (x : Bool) : splice (encT n f) (i * 1) [.bool x] = encT n (updB f i x) := by
  rw [Nat.mul_one]
  show (encT n f).set i (.bool x) = _
  apply List.ext_getElem?
  intro j
  rw [List.getElem?_set]
  by_cases hj : j < n
  · have e1 : (encT n (updB f i x))[j]? = some (.bool (updB f i x j)) := by simp [encT, hj]
    have e2 : (encT n f)[j]? = some (.bool (f j)) := by simp [encT, hj]
    rw [e1, e2, encT_len]
    by_cases e : i = j
    · subst e; rw [if_pos rfl, if_pos hj]; unfold updB; rw [if_pos rfl]
    · rw [if_neg e]; unfold updB; rw [if_neg (Ne.symm e)]
  · have e1 : (encT n (updB f i x))[j]? = none := List.getElem?_eq_none (by rw [encT_len]; omega)
    have e2 : (encT n f)[j]? = none := List.getElem?_eq_none (by rw [encT_len]; omega)
    rw [e1, e2, encT_len]
    split
    · rw [if_neg (by omega)]
    · rfl
theorem encT_false (n : Nat) : List.replicate n (Value.bool false) = encT n fun _ => false := by
  refine List.ext_getElem (by simp [encT]) fun j h1 h2 => ?_
  simp [encT]
/-- How often lanes are used is bounded. -/
def Bd (u : Nat → Int) (c : Nat) : Prop := ∀ x, x < 18 → 0 ≤ u x ∧ u x ≤ 2 * (c : Int)
theorem Bd.step {u : Nat → Int} {c k l : Nat} (h : Bd u c) (hk : k < 18) (hl : l < 18) : Bd (updP (updP u k (u k + 1)) l (updP u k (u k + 1) l + 1)) (c + 1) := fun x hx => by
  have h1 := h x hx
  have h2 := h k hk
  have h3 := h l hl
  unfold updP
  split
  · split <;> omega
  · split <;> omega
theorem upd_back2 (u : Nat → Int) (k l : Nat) (u' : Nat → Int) (hu : u' = updP (updP u k (u k + 1)) l (updP u k (u k + 1) l + 1)) : updP (updP u' k (u' k - 1)) l (updP u' k (u' k - 1) l - 1) = u := by
  subst hu
  funext x
  unfold updP
  by_cases e1 : x = l
  · subst e1
    rw [if_pos rfl]
    by_cases e2 : x = k
    · subst e2; simp only [if_true]; omega
    · simp only [if_neg e2, if_true]; omega
  · rw [if_neg e1]
    by_cases e2 : x = k
    · subst e2
      rw [if_pos rfl, if_neg e1, if_pos rfl]; omega
    · rw [if_neg e2, if_neg e1, if_neg e2]
end Go.Proofs.Ythpkgabckklojaa.Bl

/- League: how uneven lanes are used: what its numbers are at most. -/
namespace Go.Proofs.Ythpkgabckklojaa.Bl
open Go.RowKit Go.Shelf

section
variable {P : Program} {st : Sto} {d : Option Nat} {ty : TypeId} {pos : String} {af : Array Edge} {g : Option (Nat × Bool)}
theorem det_sliceArrToH {x y : Operand} {t E b off n z : Nat} {q : IntKind} {j : Int} (m : Nat) (hx : opnd st x = some (.pointer (some ⟨b, off, none⟩))) (hy : opnd st y = some (.int q j)) (hj : j = (m : Int)) (hm : m ≤ n)
    (hu : ∀ w, (underlying t).run P w = .ok (.array n E) w) (hS : ∀ w, (sizeOf E).run P w = .ok z w) : PDet P ⟨d, .slice t x none (some y) none, ty, pos, af, g⟩ st (.slice (some ⟨b, off, none⟩) m n) := fun N ac w hst => by
  subst hj
  have e3 : (0 : Int) ≤ (m : Int) ∧ (m : Int) ≤ (n : Int) := by omega
  simp [execOp, hst.eval hx, hst.eval hy, Instr.sliceAt, Instr.sliceBounds, Instr.sliceBound, asIntOf, Sem.run_bind, Sem.run_pure, Result.andThen, hu, hS, Instr.sureAddr, addr_add, e3, hm]
end
theorem tdiv2 (n : Nat) : (n : Int).tdiv 2 = ((n / 2 : Nat) : Int) := by rw [Int.tdiv_eq_ediv_of_nonneg (by omega)]; omega
theorem tmod2 (n : Nat) : (n : Int).tmod 2 = ((n % 2 : Nat) : Int) := by rw [Int.tmod_eq_emod_of_nonneg (by omega)]; omega
theorem max_mem {xs : List Int} {v y : Int} (h1 : v ∈ xs) (h2 : y ∈ xs) : max v y ∈ xs := by
  rcases Int.le_total v y with e | e
  · rw [Int.max_eq_right e]; exact h2
  · rw [Int.max_eq_left e]; exact h1
theorem min_mem {xs : List Int} {v y : Int} (h1 : v ∈ xs) (h2 : y ∈ xs) : min v y ∈ xs := by
  rcases Int.le_total v y with e | e
  · rw [Int.min_eq_left e]; exact h1
  · rw [Int.min_eq_right e]; exact h2
theorem halls_j (n : Nat) (h : n ≤ 6) : Cv Try.prog 56 [I n] KTrue (I (n / 2 : Nat)) := by
  have e := tdiv2 n
  refine Cx_of Try.func56 rfl Try.ntmps56 rfl fun w0 M0 => ?_
  refine JC_seq ?_
  refine JC_region ?_
  refine JL_pd rfl (det_assign rfl) ?_
  refine JL_nil ?_
  refine JE_seq ?_
  refine JC_seq ?_
  refine JC_region ?_
  refine JL_pd rfl (det_move rfl) ?_
  refine JL_pd rfl (det_quo rfl rfl (by omega) ⟨by omega, by omega⟩) ?_
  refine JL_pd rfl (det_assign rfl) ?_
  refine JL_nil ?_
  refine JE_seq ?_
  refine JC_ret ?_
  -- stop: out
  refine JE_out (.inl rfl) () (results1 Try.results56 (res_tmp rfl)) (by rw [e]) (List.Perm.refl _) (fun _ _ => trivial)
theorem count_j (n : Nat) (h : 2 ≤ n ∧ n ≤ 6) : Cv Try.prog 52 [I n] KTrue (I (n - 1 + n % 2 : Nat)) := by
  have e := tmod2 n
  refine Cx_of Try.func52 rfl Try.ntmps52 rfl fun w0 M0 => ?_
  refine JC_seq ?_
  refine JC_region ?_
  refine JL_pd rfl (det_assign rfl) ?_
  refine JL_nil ?_
  refine JE_seq ?_
  refine JC_seq ?_
  refine JC_region ?_
  refine JL_pd rfl (det_move rfl) ?_
  refine JL_pd rfl (det_sub rfl rfl ⟨by omega, by omega⟩) ?_
  refine JL_pd rfl (det_move rfl) ?_
  refine JL_pd rfl (det_rem rfl rfl (by omega)) ?_
  refine JL_pd rfl (det_add rfl rfl ⟨by omega, by omega⟩) ?_
  refine JL_pd rfl (det_assign rfl) ?_
  refine JL_nil ?_
  refine JE_seq ?_
  refine JC_ret ?_
  -- stop: out
  refine JE_out (.inl rfl) () (results1 Try.results52 (res_tmp rfl)) (by rw [e, show ((n - 1 + n % 2 : Nat) : Int) = (n : Int) - 1 + ((n % 2 : Nat) : Int) by omega]) (List.Perm.refl _) (fun _ _ => trivial)
set_option maxRecDepth 100000 in
theorem maxW_j (a : Option Addr) (c : Nat) (xs : List Int) (h0 : 0 < xs.length) (hl : xs.length ≤ 1000) : Cr Try.prog 89 [.slice a xs.length c] (KSl a xs.length c encI xs) (fun q : {v : Int // v ∈ xs ∧ ∀ y ∈ xs, y ≤ v} => I q.1) (fun _ => KTrue) := by
  refine Cx_of Try.func89 rfl Try.ntmps89 rfl fun w0 M0 => ?_
  refine JC_seq ?_
  refine JC_region ?_
  refine JL_pd rfl (det_assign rfl) ?_
  refine JL_nil ?_
  refine JE_seq ?_
  refine JC_seq ?_
  refine JC_seq ?_
  refine JC_region ?_
  refine JL_pd rfl (det_move rfl) ?_
  refine JL_pd rfl (det_len rfl Try.runUnderlying26) ?_
  refine JL_pd rfl (det_lss rfl rfl) ?_
  refine JL_nil ?_
  refine JE_seq ?_
  -- stop: cond
  refine JC_if rfl (fun h1 => ?_) (fun h1 => ?_)
  · omega
  refine JC_skip ?_
  refine JE_seq ?_
  refine JC_seq ?_
  refine JC_region ?_
  refine JL_pd rfl (det_move rfl) ?_
  refine JL_dt rfl (det_indexAddr (i := 0) rfl rfl rfl h0 Try.runUnderlying26 Try.sizeOf3) ?_
  refine JL_dt rfl (det_loadE rfl (by first | assumption | omega | decide) Try.isAgg3 rfl rfl) ?_
  refine JL_pd rfl (det_assign rfl) ?_
  refine JL_nil ?_
  refine JE_seq ?_
  refine JC_seq ?_
  refine JC_seq ?_
  refine JC_region ?_
  refine JL_pd rfl (det_assign rfl) ?_
  refine JL_nil ?_
  refine JE_seq ?_
  refine JC_block ?_
  -- stop: loop
  refine JC_loopF (γ := Nat × {v : Int // v ∈ xs}) (fun q => 1 ≤ q.1 ∧ q.1 ≤ xs.length ∧ ∀ y ∈ xs.take q.1, y ≤ q.2.1) (fun q => [(4, I q.1), (3, I q.2.1)]) (fun _ => []) (fun q => xs.length - q.1) (1, ⟨xs[0], List.getElem_mem h0⟩) ⟨Nat.le_refl _, h0, fun y hy => by rw [List.take_succ_eq_append_getElem h0] at hy; simp at hy; simp only [hy]; exact Int.le_refl _⟩ (stsub_consI rfl rfl (stsub_consI rfl rfl stsub_nil)) ht_nil ?_
  rintro ⟨i, v, hv⟩ ⟨hi1, hi, hall⟩ K hK
  dsimp only [List.cons_append, List.nil_append] at hi1 hi hall ⊢
  refine JC_seq ?_
  refine JC_seq ?_
  refine JC_region ?_
  refine JL_pd rfl (det_move rfl) ?_
  refine JL_pd rfl (det_move rfl) ?_
  refine JL_pd rfl (det_len rfl Try.runUnderlying26) ?_
  refine JL_pd rfl (det_lss rfl rfl) ?_
  refine JL_nil ?_
  refine JE_seq ?_
  -- stop: cond
  refine JC_if rfl (fun h2 => ?_) (fun h2 => ?_)
  · have hi2 : i < xs.length := by omega
    refine JC_skip ?_
    refine JE_seq ?_
    refine JC_seq ?_
    refine JC_block ?_
    refine JC_region ?_
    refine JL_pd rfl (det_move rfl) ?_
    refine JL_pd rfl (det_move rfl) ?_
    refine JL_pd rfl (det_move rfl) ?_
    refine JL_dt rfl (det_indexAddr rfl rfl (by first | rfl | omega) (by first | assumption | omega | decide) Try.runUnderlying26 Try.sizeOf3) ?_
    refine JL_dt rfl (det_loadE rfl (by first | assumption | omega | decide) Try.isAgg3 rfl rfl) ?_
    refine JL_pd rfl (det_max rfl rfl) ?_
    refine JL_pd rfl (det_assign rfl) ?_
    refine JL_nil ?_
    refine JE_block ?_
    refine JE_seq ?_
    refine JC_region ?_
    refine JL_pd rfl (det_move rfl) ?_
    refine JL_pd rfl (det_add rfl rfl ⟨by omega, by omega⟩) ?_
    refine JL_pd rfl (det_assign rfl) ?_
    refine JL_nil ?_
    -- stop: end
    refine JE_roundF hK (i + 1, ⟨max v xs[i], max_mem hv (List.getElem_mem hi2)⟩) ⟨by simp only; omega, by simp only; omega, fun y hy => ?_⟩ (by simp only; omega) (stsub_consI rfl (by simp only; omega) (stsub_consI rfl rfl stsub_nil)) ht_nil
    simp only at hy ⊢
    rw [List.take_succ_eq_append_getElem hi2, List.mem_append, List.mem_singleton] at hy
    rcases hy with hy | rfl
    · have := hall y hy; omega
    · omega
  · obtain rfl : i = xs.length := by omega
    rw [List.take_length] at hall
    refine JC_exit ?_
    refine JE_seq_exit ?_
    refine JE_then_exit ?_
    refine JE_block_here ?_
    refine JE_seq ?_
    refine JC_seq ?_
    refine JC_region ?_
    refine JL_pd rfl (det_move rfl) ?_
    refine JL_pd rfl (det_assign rfl) ?_
    refine JL_nil ?_
    refine JE_seq ?_
    refine JC_ret ?_
    -- stop: out
    refine JE_out (.inl rfl) ⟨v, hv, hall⟩ (results1 Try.results89 (res_tmp rfl)) rfl (List.Perm.refl _) (fun _ _ => trivial)
set_option maxRecDepth 100000 in
theorem minW_j (a : Option Addr) (c : Nat) (xs : List Int) (h0 : 0 < xs.length) (hl : xs.length ≤ 1000) : Cr Try.prog 66 [.slice a xs.length c] (KSl a xs.length c encI xs) (fun q : {v : Int // v ∈ xs} => I q.1) (fun _ => KTrue) := by
  refine Cx_of Try.func66 rfl Try.ntmps66 rfl fun w0 M0 => ?_
  refine JC_seq ?_
  refine JC_region ?_
  refine JL_pd rfl (det_assign rfl) ?_
  refine JL_nil ?_
  refine JE_seq ?_
  refine JC_seq ?_
  refine JC_seq ?_
  refine JC_region ?_
  refine JL_pd rfl (det_move rfl) ?_
  refine JL_pd rfl (det_len rfl Try.runUnderlying26) ?_
  refine JL_pd rfl (det_lss rfl rfl) ?_
  refine JL_nil ?_
  refine JE_seq ?_
  -- stop: cond
  refine JC_if rfl (fun h1 => ?_) (fun h1 => ?_)
  · omega
  refine JC_skip ?_
  refine JE_seq ?_
  refine JC_seq ?_
  refine JC_region ?_
  refine JL_pd rfl (det_move rfl) ?_
  refine JL_dt rfl (det_indexAddr (i := 0) rfl rfl rfl h0 Try.runUnderlying26 Try.sizeOf3) ?_
  refine JL_dt rfl (det_loadE rfl (by first | assumption | omega | decide) Try.isAgg3 rfl rfl) ?_
  refine JL_pd rfl (det_assign rfl) ?_
  refine JL_nil ?_
  refine JE_seq ?_
  refine JC_seq ?_
  refine JC_seq ?_
  refine JC_region ?_
  refine JL_pd rfl (det_assign rfl) ?_
  refine JL_nil ?_
  refine JE_seq ?_
  refine JC_block ?_
  -- stop: loop
  refine JC_loopF (γ := Nat × {v : Int // v ∈ xs}) (fun q => 1 ≤ q.1 ∧ q.1 ≤ xs.length) (fun q => [(4, I q.1), (3, I q.2.1)]) (fun _ => []) (fun q => xs.length - q.1) (1, ⟨xs[0], List.getElem_mem h0⟩) ⟨Nat.le_refl _, h0⟩ (stsub_consI rfl rfl (stsub_consI rfl rfl stsub_nil)) ht_nil ?_
  rintro ⟨i, v, hv⟩ ⟨hi1, hi⟩ K hK
  dsimp only [List.cons_append, List.nil_append] at hi1 hi ⊢
  refine JC_seq ?_
  refine JC_seq ?_
  refine JC_region ?_
  refine JL_pd rfl (det_move rfl) ?_
  refine JL_pd rfl (det_move rfl) ?_
  refine JL_pd rfl (det_len rfl Try.runUnderlying26) ?_
  refine JL_pd rfl (det_lss rfl rfl) ?_
  refine JL_nil ?_
  refine JE_seq ?_
  -- stop: cond
  refine JC_if rfl (fun h2 => ?_) (fun h2 => ?_)
  · have hi2 : i < xs.length := by omega
    refine JC_skip ?_
    refine JE_seq ?_
    refine JC_seq ?_
    refine JC_block ?_
    refine JC_region ?_
    refine JL_pd rfl (det_move rfl) ?_
    refine JL_pd rfl (det_move rfl) ?_
    refine JL_pd rfl (det_move rfl) ?_
    refine JL_dt rfl (det_indexAddr rfl rfl (by first | rfl | omega) (by first | assumption | omega | decide) Try.runUnderlying26 Try.sizeOf3) ?_
    refine JL_dt rfl (det_loadE rfl (by first | assumption | omega | decide) Try.isAgg3 rfl rfl) ?_
    refine JL_pd rfl (det_min rfl rfl) ?_
    refine JL_pd rfl (det_assign rfl) ?_
    refine JL_nil ?_
    refine JE_block ?_
    refine JE_seq ?_
    refine JC_region ?_
    refine JL_pd rfl (det_move rfl) ?_
    refine JL_pd rfl (det_add rfl rfl ⟨by omega, by omega⟩) ?_
    refine JL_pd rfl (det_assign rfl) ?_
    refine JL_nil ?_
    -- stop: end
    refine JE_roundF hK (i + 1, ⟨min v xs[i], min_mem hv (List.getElem_mem hi2)⟩) ⟨by simp only; omega, by simp only; omega⟩ (by simp only; omega) (stsub_consI rfl (by simp only; omega) (stsub_consI rfl rfl stsub_nil)) ht_nil
  · obtain rfl : i = xs.length := by omega
    refine JC_exit ?_
    refine JE_seq_exit ?_
    refine JE_then_exit ?_
    refine JE_block_here ?_
    refine JE_seq ?_
    refine JC_seq ?_
    refine JC_region ?_
    refine JL_pd rfl (det_move rfl) ?_
    refine JL_pd rfl (det_assign rfl) ?_
    refine JL_nil ?_
    refine JE_seq ?_
    refine JC_ret ?_
    -- stop: out
    refine JE_out (.inl rfl) ⟨v, hv⟩ (results1 Try.results66 (res_tmp rfl)) rfl (List.Perm.refl _) (fun _ _ => trivial)
theorem greatestW_j (a : Option Addr) (c : Nat) (xs : List Int) (h0 : 0 < xs.length) (hl : xs.length ≤ 1000) : Cr Try.prog 88 [.slice a xs.length c] (KSl a xs.length c encI xs) (fun q : {v : Int // v ∈ xs ∧ ∀ y ∈ xs, y ≤ v} => I q.1) (fun _ => KTrue) := by
  refine Cx_of Try.func88 rfl Try.ntmps88 rfl fun w0 M0 => ?_
  refine JC_seq ?_
  refine JC_region ?_
  refine JL_pd rfl (det_assign rfl) ?_
  refine JL_nil ?_
  refine JE_seq ?_
  refine JC_seq ?_
  refine JC_region ?_
  refine JL_pd rfl (det_move rfl) ?_
  refine JL_step rfl rfl rfl (jo_call rfl rfl Try.call89 rfl (maxW_j a c xs h0 hl)) fun x4 => ?_
  refine JL_pd rfl (det_assign rfl) ?_
  refine JL_nil ?_
  refine JE_seq ?_
  refine JC_ret ?_
  -- stop: out
  refine JE_out (.inl rfl) x4 (results1 Try.results88 (res_tmp rfl)) rfl (List.Perm.refl _) (fun _ _ => trivial)
/-- What lies in a block from a place on, as a slice. -/
theorem KSl_part {b off m cap : Nat} {cs : List Value} {ys : List Int} {w : World} (h : Box w b cs) (hc : (cs.drop off).take m = ys.flatMap encI) (hy : ys.length = m) (hm : m ≤ cap) (hcap : cap ≤ maxLen) : KSl (some ⟨b, off, none⟩) m cap encI ys w := by
  refine ⟨⟨hm, hcap, fun h => (by cases h), fun _ => ⟨b, off, rfl, h.lt, fun i c hi => ?_⟩⟩, hy.symm⟩
  rw [← hc, List.getElem?_take] at hi
  split at hi
  · rw [List.getElem?_drop] at hi
    exact h.cell (off + i) hi
  · cases hi
def usL (u : Nat → Int) (t m : Nat) : List Int := (List.range m).map fun l => u (t * 3 + l)
theorem usL_len (u : Nat → Int) (t m : Nat) : (usL u t m).length = m := by simp [usL]
theorem usL_cells (u : Nat → Int) {t m : Nat} (ht : t < 6) (hm : m ≤ 3) : ((encP 18 u).drop (t * 3)).take m = (usL u t m).flatMap encI := by
  apply List.ext_getElem?
  intro j
  have e : (usL u t m).flatMap encI = (List.range m).map fun l => I (u (t * 3 + l)) := by
    unfold usL
    generalize List.range m = r
    induction r with
    | nil => rfl
    | cons a r ih => rw [List.map_cons, List.flatMap_cons, ih]; rfl
  rw [e, List.getElem?_take, List.getElem?_drop]
  split
  · rename_i hj
    have h18 : t * 3 + j < 18 := by omega
    simp [encP, hj, h18]
  · rename_i hj
    exact (List.getElem?_eq_none (by simp; omega)).symm
theorem usL_bd {u : Nat → Int} {c t m : Nat} (h : Bd u c) (ht : t < 6) (hm : m ≤ 3) {y : Int} (hy : y ∈ usL u t m) : 0 ≤ y ∧ y ≤ 2 * (c : Int) := by
  unfold usL at hy
  obtain ⟨l, hl, rfl⟩ := List.mem_map.1 hy
  exact h _ (by have := List.mem_range.1 hl; omega)
set_option maxRecDepth 100000 in
theorem uneven_j (n : Nat) (u : Nat → Int) (h : 2 ≤ n ∧ n ≤ 6) (hu : Bd u 15) : Cr Try.prog 54 [.agg (encP 18 u).toArray, I n] KTrue (fun q : {v : Int // v ≤ 30} => I q.1) (fun _ => KTrue) := by
  refine Cx_of Try.func54 rfl Try.ntmps54 rfl fun w0 M0 => ?_
  refine JC_seq ?_
  refine JC_region ?_
  refine JL_step rfl rfl rfl (jo_box rfl rfl) fun b2 => ?_
  refine JL_pd rfl (det_assign rfl) ?_
  refine JL_nil ?_
  refine JE_seq ?_
  refine JC_seq ?_
  refine JC_region ?_
  refine JL_pd rfl (det_assign rfl) ?_
  refine JL_nil ?_
  refine JE_seq ?_
  refine JC_seq ?_
  refine JC_seq ?_
  refine JC_region ?_
  refine JL_pd rfl (det_move rfl) ?_
  refine JL_pd rfl (det_move rfl) ?_
  refine JL_nil ?_
  refine JE_seq ?_
  refine JC_block ?_
  -- stop: loop
  refine JC_keep b2 noFp ?_
  refine JC_loopF (γ := Nat × {v : Int // 0 ≤ v ∧ v ≤ 30}) (fun q => q.1 ≤ n) (fun q => [(9, I q.1), (5, I q.2.1)]) (fun _ => []) (fun q => n - q.1) (0, ⟨0, by omega⟩) (Nat.zero_le _) (stsub_consI rfl rfl (stsub_consI rfl rfl stsub_nil)) ht_nil ?_
  rintro ⟨t, v, hv⟩ ht K hK
  dsimp only [List.cons_append, List.nil_append] at ht ⊢
  refine JC_seq ?_
  refine JC_region ?_
  refine JL_pd rfl (det_lss rfl rfl) ?_
  refine JL_nil ?_
  refine JE_seq ?_
  refine JC_seq ?_
  -- stop: cond
  refine JC_if rfl (fun h1 => ?_) (fun h1 => ?_)
  · have ht6 : t < 6 := by omega
    have hm3 : n / 2 ≤ 3 := by omega
    have hul := usL_len u t (n / 2)
    refine JC_know (R' := KAnd (KSl (some ⟨b2, 0 + t * 3, none⟩) (n / 2) 3 encI (usL u t (n / 2))) _) (fun w h => ⟨KSl_part (Knows.know (F := KBox b2 (encP 18 u)) w h) (by rw [Nat.zero_add]; exact usL_cells u ht6 hm3) hul hm3 (by decide), h⟩) ?_
    have hMx := maxW_j (some ⟨b2, 0 + t * 3, none⟩) 3 (usL u t (n / 2)) (by omega) (by omega)
    have hMn := minW_j (some ⟨b2, 0 + t * 3, none⟩) 3 (usL u t (n / 2)) (by omega) (by omega)
    rw [hul] at hMx hMn
    refine JC_skip ?_
    refine JE_seq ?_
    refine JC_seq ?_
    refine JC_block ?_
    refine JC_seq ?_
    refine JC_region ?_
    refine JL_pd rfl (det_move rfl) ?_
    refine JL_pd rfl (det_assign rfl) ?_
    refine JL_nil ?_
    refine JE_seq ?_
    refine JC_seq ?_
    refine JC_draw [] (by kernel_rfl) ?_
    refine JA_pd (i := 0) rfl (by kernel_rfl) rfl rfl (det_move rfl) ?_
    refine JA_pd (i := 1) rfl (by kernel_rfl) rfl rfl (det_indexArr (i := t) rfl rfl rfl ht6 Try.runUnderlying109 Try.sizeOf107) ?_
    refine JA_pd (i := 2) rfl (by kernel_rfl) rfl rfl (det_move rfl) ?_
    refine JA_one (i := 3) (by kernel_rfl) rfl rfl (jo_callv rfl rfl Try.call56 rfl (halls_j n h.2)) (fun _ => ⟨hsub_refl, fun _ h => h⟩) fun _ => ?_
    refine JA_pd (i := 4) rfl (by kernel_rfl) rfl rfl (det_sliceArrToH (n / 2) rfl rfl rfl hm3 Try.runUnderlying107 Try.sizeOf3) ?_
    refine JA_pd (i := 5) rfl (by kernel_rfl) rfl rfl (det_assign rfl) ?_
    refine JA_done (by kernel_rfl) ?_
    refine JE_seq ?_
    refine JC_region ?_
    refine JL_pd rfl (det_move rfl) ?_
    refine JL_pd rfl (det_move rfl) ?_
    refine JL_step rfl rfl rfl (jo_call rfl rfl Try.call89 rfl (hMx)) fun x19 => ?_
    refine JL_pd rfl (det_move rfl) ?_
    refine JL_step rfl rfl rfl (jo_call rfl rfl Try.call66 rfl (hMn)) fun x21 => ?_
    have h2 := usL_bd hu ht6 hm3 x19.2.1
    have h3 := usL_bd hu ht6 hm3 x21.2
    refine JL_pd rfl (det_sub rfl rfl ⟨by omega, by omega⟩) ?_
    refine JL_step rfl rfl rfl (jo_buildSlice rfl (bsl_26_2_0_1 _ _)) fun b23 => ?_
    refine JL_lit (enc := encI) b23 2 [v, x19.1 - x21.1] noFp rfl rfl (by decide) ?_
    refine JL_step rfl rfl rfl (jo_call rfl rfl Try.call88 rfl (greatestW_j (some ⟨b23, 0, none⟩) 2 [v, x19.1 - x21.1] (by simp) (by simp))) fun x24 => ?_
    refine JL_pd rfl (det_assign rfl) ?_
    refine JL_nil ?_
    refine JE_block ?_
    refine JE_seq ?_
    refine JC_region ?_
    refine JL_pd rfl (det_add rfl rfl ⟨by omega, by omega⟩) ?_
    refine JL_pd rfl (det_move rfl) ?_
    refine JL_nil ?_
    -- stop: end
    have h4 : x24.1 = v ∨ x24.1 = x19.1 - x21.1 := by have := x24.2.1; simpa using this
    have h5 := x24.2.2 v (by simp)
    refine JE_roundF hK (t + 1, ⟨x24.1, by omega⟩) (by simp only; omega) (by simp only; omega) (stsub_consI rfl (by simp only; omega) (stsub_consI rfl rfl stsub_nil)) ht_nil
  · refine JC_exit ?_
    refine JE_seq_exit ?_
    refine JE_then_exit ?_
    refine JE_block_here ?_
    refine JE_seq ?_
    refine JC_seq ?_
    refine JC_region ?_
    refine JL_pd rfl (det_move rfl) ?_
    refine JL_pd rfl (det_assign rfl) ?_
    refine JL_nil ?_
    refine JE_seq ?_
    refine JC_ret ?_
    -- stop: out
    refine JE_out (.inl rfl) ⟨v, hv.2⟩ (results1 Try.results54 (res_tmp rfl)) rfl (List.Perm.refl _) (fun _ _ => trivial)
end Go.Proofs.Ythpkgabckklojaa.Bl

/- League: schedules: what lanes a team may have at most; the rounds. -/
namespace Go.Proofs.Ythpkgabckklojaa.Bl
open Go.RowKit Go.Shelf

theorem tdiv_bd {a d k : Int} (h1 : -k ≤ a) (h2 : a ≤ k) (hk : k ≤ 1000) : InI (a.tdiv d) ∧ -k ≤ a.tdiv d ∧ a.tdiv d ≤ k := by
  have h := Int.natAbs_tdiv a d
  have h3 : a.natAbs.div d.natAbs ≤ a.natAbs := Nat.div_le_self _ _
  rw [← h] at h3
  have h4 : a.natAbs ≤ k.natAbs := by omega
  refine ⟨⟨?_, ?_⟩, ?_, ?_⟩ <;> omega
set_option maxRecDepth 100000 in
theorem most_j (n : Nat) (u : Nat → Int) (un : Int) (h : 2 ≤ n ∧ n ≤ 6) (hu : Bd u 15) (hun : 0 ≤ un ∧ un ≤ 100) : Cr Try.prog 55 [.agg (encP 18 u).toArray, I n, I un] KTrue (fun q : {v : Bool // un = 100 → v = true} => .bool q.1) (fun _ => KTrue) := by
  refine Cx_of Try.func55 rfl Try.ntmps55 rfl fun w0 M0 => ?_
  refine JC_seq ?_
  refine JC_region ?_
  refine JL_step rfl rfl rfl (jo_box rfl rfl) fun b3 => ?_
  refine JL_pd rfl (det_assign rfl) ?_
  refine JL_nil ?_
  refine JE_seq ?_
  refine JC_seq ?_
  refine JC_seq ?_
  refine JC_region ?_
  refine JL_pd rfl (det_move rfl) ?_
  refine JL_pd rfl (det_move rfl) ?_
  refine JL_nil ?_
  refine JE_seq ?_
  refine JC_block ?_
  -- stop: loop
  refine JC_keep b3 noFp ?_
  refine JC_loopF (γ := Nat) (fun t => t ≤ n) (fun t => [(12, I t)]) (fun _ => []) (fun t => n - t) 0 (Nat.zero_le _) (stsub_consI rfl rfl stsub_nil) ht_nil ?_
  intro t ht K hK
  dsimp only [List.cons_append, List.nil_append]
  refine JC_seq ?_
  refine JC_region ?_
  refine JL_pd rfl (det_lss rfl rfl) ?_
  refine JL_nil ?_
  refine JE_seq ?_
  refine JC_seq ?_
  -- stop: cond
  refine JC_if rfl (fun h1 => ?_) (fun h1 => ?_)
  · have ht6 : t < 6 := by omega
    have hm3 : n / 2 ≤ 3 := by omega
    have hul := usL_len u t (n / 2)
    refine JC_know (R' := KAnd (KSl (some ⟨b3, 0 + t * 3, none⟩) (n / 2) 3 encI (usL u t (n / 2))) _) (fun w h => ⟨KSl_part (Knows.know (F := KBox b3 (encP 18 u)) w h) (by rw [Nat.zero_add]; exact usL_cells u ht6 hm3) hul hm3 (by decide), h⟩) ?_
    refine JC_skip ?_
    refine JE_seq ?_
    refine JC_seq ?_
    refine JC_block ?_
    refine JC_seq ?_
    refine JC_region ?_
    refine JL_pd rfl (det_move rfl) ?_
    refine JL_pd rfl (det_assign rfl) ?_
    refine JL_nil ?_
    refine JE_seq ?_
    refine JC_seq ?_
    refine JC_draw [] (by kernel_rfl) ?_
    refine JA_pd (i := 0) rfl (by kernel_rfl) rfl rfl (det_move rfl) ?_
    refine JA_pd (i := 1) rfl (by kernel_rfl) rfl rfl (det_indexArr (i := t) rfl rfl rfl ht6 Try.runUnderlying109 Try.sizeOf107) ?_
    refine JA_pd (i := 2) rfl (by kernel_rfl) rfl rfl (det_move rfl) ?_
    refine JA_pd (i := 6) rfl (by kernel_rfl) rfl rfl (det_move rfl) ?_
    refine JA_one (i := 3) (by kernel_rfl) rfl rfl (jo_callv rfl rfl Try.call56 rfl (halls_j n h.2)) (fun _ => ⟨hsub_refl, fun _ h => h⟩) fun _ => ?_
    refine JA_pd (i := 4) rfl (by kernel_rfl) rfl rfl (det_sliceArrToH (n / 2) rfl rfl rfl hm3 Try.runUnderlying107 Try.sizeOf3) ?_
    refine JA_pd (i := 5) rfl (by kernel_rfl) rfl rfl (det_len rfl Try.runUnderlying26) ?_
    refine JA_done (by kernel_rfl) ?_
    refine JE_seq ?_
    refine JC_block ?_
    -- stop: loop
    refine JC_loopF (γ := Nat) (fun l => l ≤ n / 2) (fun l => [(21, I l)]) (fun _ => []) (fun l => n / 2 - l) 0 (Nat.zero_le _) (stsub_consI rfl rfl stsub_nil) ht_nil ?_
    intro l hl K2 hK2
    dsimp only [List.cons_append, List.nil_append]
    refine JC_seq ?_
    refine JC_region ?_
    refine JL_pd rfl (det_lss rfl rfl) ?_
    refine JL_nil ?_
    refine JE_seq ?_
    refine JC_seq ?_
    -- stop: cond
    refine JC_if rfl (fun h2 => ?_) (fun h2 => ?_)
    · have hl2 : l < (usL u t (n / 2)).length := by omega
      have hb := usL_bd hu ht6 hm3 (List.getElem_mem hl2)
      obtain ⟨h0, h3⟩ := hb
      have hgr := fun b => greatestW_j (some ⟨b, 0, none⟩) 2 [(1 : Int), ((n / 2 : Nat) : Int) - 1] (by simp) (by simp)
      refine JC_skip ?_
      refine JE_seq ?_
      refine JC_seq ?_
      refine JC_block ?_
      refine JC_seq ?_
      refine JC_region ?_
      refine JL_dt rfl (det_indexAddr rfl rfl (by first | rfl | omega) (by first | assumption | omega | decide) Try.runUnderlying26 Try.sizeOf3) ?_
      refine JL_dt rfl (det_loadE (n := n / 2) (i := l) (xs := usL u t (n / 2)) rfl (hul ▸ hl2) Try.isAgg3 hul.symm rfl) ?_
      refine JL_pd rfl (det_assign rfl) ?_
      refine JL_nil ?_
      refine JE_seq ?_
      refine JC_seq ?_
      refine JC_region ?_
      refine JL_pd rfl (det_move rfl) ?_
      refine JL_pd rfl (det_sub rfl rfl ⟨by omega, by omega⟩) ?_
      refine JL_pd rfl (det_move rfl) ?_
      refine JL_pd rfl (det_sub rfl rfl ⟨by omega, by omega⟩) ?_
      refine JL_pd rfl (det_assign rfl) ?_
      refine JL_nil ?_
      refine JE_seq ?_
      refine JC_seq ?_
      refine JC_region ?_
      refine JL_pd rfl (det_move rfl) ?_
      refine JL_pd rfl (det_move rfl) ?_
      refine JL_pd rfl (det_sub rfl rfl ⟨by omega, by omega⟩) ?_
      refine JL_pd rfl (det_move rfl) ?_
      refine JL_pd rfl (det_move rfl) ?_
      refine JL_step rfl rfl rfl (jo_callv rfl rfl Try.call56 rfl (halls_j n h.2)) fun _ => ?_
      refine JL_pd rfl (det_sub rfl rfl ⟨by omega, by omega⟩) ?_
      refine JL_step rfl rfl rfl (jo_buildSlice rfl (bsl_26_2_0_1 _ _)) fun b36 => ?_
      refine JL_lit (enc := encI) b36 2 [(1 : Int), ((n / 2 : Nat) : Int) - 1] noFp rfl rfl (by decide) ?_
      refine JL_step rfl rfl rfl (jo_call rfl rfl Try.call88 rfl (hgr b36)) fun x37 => ?_
      have h4 := x37.2.2 1 (by simp)
      have h5 := tdiv_bd (a := (n : Int) - 1 - (usL u t (n / 2))[l]) (d := x37.1) (k := 30) (by omega) (by omega) (by omega)
      refine JL_pd rfl (det_quo rfl rfl (by omega) h5.1) ?_
      refine JL_pd rfl (det_gtr rfl rfl) ?_
      refine JL_pd rfl (det_move rfl) ?_
      -- stop: guard 11
      refine JL_split (d0 := 40) rfl (fun h6 => ?_) (fun h6 => ?_)
      · have h7 : un ≠ 100 := by
          have := of_decide_eq_true h6
          omega
        refine JL_guard rfl rfl h6 ?_
        refine JL_pd rfl (det_move rfl) ?_
        refine JL_guard rfl rfl h6 ?_
        refine JL_step rfl rfl rfl (jo_callv rfl rfl Try.call56 rfl (halls_j n h.2)) fun _ => ?_
        refine JL_guard rfl rfl h6 ?_
        refine JL_pd rfl (det_gtr rfl rfl) ?_
        refine JL_pd rfl (det_pick_t rfl h6 rfl) ?_
        refine JL_nil ?_
        refine JE_seq ?_
        -- stop: cond
        refine JC_cond rfl (fun h8 => ?_) (fun h8 => ?_)
        · refine JC_seq ?_
          refine JC_region ?_
          refine JL_pd rfl (det_assign rfl) ?_
          refine JL_nil ?_
          refine JE_seq ?_
          refine JC_ret ?_
          refine JE_block_ret ?_
          refine JE_seq_ret ?_
          refine JE_then_ret ?_
          refine JE_block_ret ?_
          refine JE_block_ret ?_
          refine JE_seq_ret ?_
          refine JE_then_ret ?_
          refine JE_block_ret ?_
          refine JE_seq_ret ?_
          -- stop: out
          refine JE_out (.inl rfl) ⟨false, fun e => absurd e h7⟩ (results1 Try.results55 (res_tmp rfl)) rfl (List.Perm.refl _) (fun _ _ => trivial)
        · refine JC_skip ?_
          refine JE_block ?_
          refine JE_seq ?_
          refine JC_region ?_
          refine JL_pd rfl (det_add rfl rfl ⟨by omega, by omega⟩) ?_
          refine JL_pd rfl (det_move rfl) ?_
          refine JL_nil ?_
          -- stop: end
          refine JE_roundF hK2 (l + 1) (by omega) (by omega) (stsub_consI rfl (by omega) stsub_nil) ht_nil
      · refine JL_skip rfl rfl h6 rfl ?_
        refine JL_skip rfl rfl h6 rfl ?_
        refine JL_skip rfl rfl h6 rfl ?_
        refine JL_pd rfl (det_pick_f rfl h6 rfl) ?_
        refine JL_nil ?_
        refine JE_seq ?_
        -- stop: cond
        refine JC_cond rfl (fun h8 => ?_) (fun h8 => ?_)
        · cases h8
        refine JC_skip ?_
        refine JE_block ?_
        refine JE_seq ?_
        refine JC_region ?_
        refine JL_pd rfl (det_add rfl rfl ⟨by omega, by omega⟩) ?_
        refine JL_pd rfl (det_move rfl) ?_
        refine JL_nil ?_
        -- stop: end
        refine JE_roundF hK2 (l + 1) (by omega) (by omega) (stsub_consI rfl (by omega) stsub_nil) ht_nil
    · refine JC_exit ?_
      refine JE_seq_exit ?_
      refine JE_then_exit ?_
      refine JE_block_here ?_
      refine JE_block ?_
      refine JE_seq ?_
      refine JC_region ?_
      refine JL_pd rfl (det_add rfl rfl ⟨by omega, by omega⟩) ?_
      refine JL_pd rfl (det_move rfl) ?_
      refine JL_nil ?_
      -- stop: end
      refine JE_roundF hK (t + 1) (by omega) (by omega) (stsub_consI rfl (by omega) stsub_nil) ht_nil
  · refine JC_exit ?_
    refine JE_seq_exit ?_
    refine JE_then_exit ?_
    refine JE_block_here ?_
    refine JE_seq ?_
    refine JC_seq ?_
    refine JC_region ?_
    refine JL_pd rfl (det_assign rfl) ?_
    refine JL_nil ?_
    refine JE_seq ?_
    refine JC_ret ?_
    -- stop: out
    refine JE_out (.inl rfl) ⟨true, fun _ => rfl⟩ (results1 Try.results55 (res_tmp rfl)) rfl (List.Perm.refl _) (fun _ _ => trivial)
end Go.Proofs.Ythpkgabckklojaa.Bl

/- League: schedules: the rounds. -/
namespace Go.Proofs.Ythpkgabckklojaa.Bl
open Go.RowKit Go.Shelf

def encRw (H : Nat) (x : Nat × Nat) : List Value := [.slice (some ⟨x.1, 0, none⟩) H x.2]
instance (H : Nat) : Rec (encRw H) 1 := ⟨fun _ => rfl, by decide⟩
theorem mta_lt {n r i : Nat} (h0 : 2 ≤ n) : mta n r i < n := by
  have e : 0 < evn n - 1 := by unfold evn; omega
  have h1 : mta n r i < evn n - 1 := Nat.mod_lt _ e
  have h3 : evn n - 1 ≤ n := by unfold evn; omega
  omega
theorem mtb_iff {n r i : Nat} (h0 : 2 ≤ n) : mtb n r i < n ↔ n % 2 ≤ i := by
  have e : 0 < evn n - 1 := by unfold evn; omega
  have h3 : evn n - 1 ≤ n := by unfold evn; omega
  unfold mtb
  split
  · unfold evn; omega
  · have h2 : (r + (evn n - 1) - i) % (evn n - 1) < evn n - 1 := Nat.mod_lt _ e
    omega
theorem row_one {n r i : Nat} (h : n % 2 ≤ i) (q : Nat → Nat → Nat) (hq : q r (i - n % 2) = 0) : [I (min (mta n r i : Int) (mtb n r i)), I (max (mta n r i : Int) (mtb n r i)), I 0] = mC n q r (i - n % 2) := by
  unfold mC mA mB
  rw [Nat.sub_add_cancel h, hq]
  have e1 : min (mta n r i : Int) (mtb n r i) = (min (mta n r i) (mtb n r i) : Nat) := by omega
  have e2 : max (mta n r i : Int) (mtb n r i) = (max (mta n r i) (mtb n r i) : Nat) := by omega
  rw [e1, e2]; rfl
set_option maxRecDepth 100000 in
set_option maxHeartbeats 1000000 in
theorem rounds_j (n : Nat) (h : 2 ≤ n ∧ n ≤ 6) : Cx Try.prog 21 [I n] [] KTrue (fun q : Option Addr × Nat × {rs : List (Nat × Nat) // rs.length = n - 1 + n % 2} => .slice q.1 (n - 1 + n % 2) q.2.1) (fun q => [grq (q.2.2.1.map (·.1)) (rowM n (fun _ _ => 0) (n / 2))]) (fun q => KSl q.1 (n - 1 + n % 2) q.2.1 (encRw (n / 2)) q.2.2.1) := by
  have e2 : (n : Int).tmod 2 = ((n % 2 : Nat) : Int) := by rw [Int.tmod_eq_emod_of_nonneg (by omega)]; omega
  have e3 : ((n : Int) + ((n % 2 : Nat) : Int)).tdiv 2 = ((n / 2 + n % 2 : Nat) : Int) := by rw [Int.tdiv_eq_ediv_of_nonneg (by omega)]; omega
  have ev : ((evn n : Nat) : Int) = (n : Int) + ((n % 2 : Nat) : Int) := by unfold evn; omega
  refine Cx_of Try.func21 rfl Try.ntmps21 rfl fun w0 M0 => ?_
  refine JC_seq ?_
  refine JC_region ?_
  refine JL_pd rfl (det_assign rfl) ?_
  refine JL_nil ?_
  refine JE_seq ?_
  refine JC_seq ?_
  refine JC_region ?_
  refine JL_pd rfl (det_move rfl) ?_
  refine JL_pd rfl (det_move rfl) ?_
  refine JL_pd rfl (det_rem rfl rfl (by omega)) ?_
  refine JL_pd rfl (det_add rfl rfl ⟨by omega, by omega⟩) ?_
  refine JL_pd rfl (det_assign rfl) ?_
  refine JL_nil ?_
  refine JE_seq ?_
  refine JC_seq ?_
  refine JC_seq ?_
  refine JC_region ?_
  refine JL_pd rfl (det_move rfl) ?_
  refine JL_step rfl rfl rfl (jo_callv rfl rfl Try.call52 rfl (count_j n h)) fun _ => ?_
  refine JL_pd rfl (det_move rfl) ?_
  refine JL_nil ?_
  refine JE_seq ?_
  refine JC_block ?_
  -- stop: loop
  rw [e2]
  refine JC_nil 30 1 ?_
  refine JC_grq0 (rowM n (fun _ _ => 0) (n / 2)) ?_
  refine JC_loopF (γ := Nat × Value × List (Nat × Nat)) (fun q => q.1 ≤ n - 1 + n % 2 ∧ q.2.2.length = q.1) (fun q => [(15, I q.1), (2, q.2.1)]) (fun q => [ow q.2.1 30 1 q.2.2.length (q.2.2.flatMap (encRw (n / 2))), grq (q.2.2.map (·.1)) (rowM n (fun _ _ => 0) (n / 2))]) (fun q => n - 1 + n % 2 - q.1) (0, .slice none 0 0, []) ⟨Nat.zero_le _, rfl⟩ (stsub_consI rfl rfl (stsub_cons rfl stsub_nil)) (ht_ow rfl rfl (show HTake _ [grq [] (rowM n (fun _ _ => 0) (n / 2))] _ from ht_cons ht_nil)) ?_
  rintro ⟨r, v, rs⟩ ⟨hr, hrl⟩ K hK
  dsimp only [List.cons_append, List.nil_append] at hr hrl ⊢
  refine JC_seq ?_
  refine JC_region ?_
  refine JL_pd rfl (det_lss rfl rfl) ?_
  refine JL_nil ?_
  refine JE_seq ?_
  refine JC_seq ?_
  -- stop: cond
  refine JC_if rfl (fun h1 => ?_) (fun h1 => ?_)
  · have hr2 : r < n - 1 + n % 2 := by omega
    refine JC_skip ?_
    refine JE_seq ?_
    refine JC_seq ?_
    refine JC_block ?_
    refine JC_seq ?_
    refine JC_region ?_
    refine JL_pd rfl (det_move rfl) ?_
    refine JL_pd rfl (det_assign rfl) ?_
    refine JL_nil ?_
    refine JE_seq ?_
    refine JC_seq ?_
    refine JC_region ?_
    refine JL_pd rfl (det_assign rfl) ?_
    refine JL_nil ?_
    refine JE_seq ?_
    refine JC_seq ?_
    refine JC_seq ?_
    refine JC_region ?_
    refine JL_pd rfl (det_move rfl) ?_
    refine JL_pd rfl (det_quo rfl rfl (by omega) ⟨by omega, by omega⟩) ?_
    refine JL_pd rfl (det_move rfl) ?_
    refine JL_nil ?_
    refine JE_seq ?_
    refine JC_block ?_
    -- stop: loop
    rw [e3]
    refine JC_nil 36 3 ?_
    refine JC_loopF (γ := Nat × Value) (fun q => q.1 ≤ n / 2 + n % 2) (fun q => [(20, I q.1), (5, q.2)]) (fun q => [ow q.2 36 3 (q.1 - n % 2) (rowM n (fun _ _ => 0) (q.1 - n % 2) r)]) (fun q => n / 2 + n % 2 - q.1) (0, .slice none 0 0) (Nat.zero_le _) (stsub_consI rfl rfl (stsub_cons rfl stsub_nil)) (ht_ow (by omega) (by rw [Nat.zero_sub]; rfl) ht_nil) ?_
    rintro ⟨i, rv⟩ hi K2 hK2
    dsimp only [List.cons_append, List.nil_append] at hi ⊢
    refine JC_seq ?_
    refine JC_region ?_
    refine JL_pd rfl (det_lss rfl rfl) ?_
    refine JL_nil ?_
    refine JE_seq ?_
    refine JC_seq ?_
    -- stop: cond
    refine JC_if rfl (fun h2 => ?_) (fun h2 => ?_)
    · have hi2 : i < n / 2 + n % 2 := by omega
      have ea : ((r : Int) + (i : Int)).tmod ((n : Int) + ((n % 2 : Nat) : Int) - 1) = ((mta n r i : Nat) : Int) := by
        rw [Int.tmod_eq_emod_of_nonneg (by omega), show (n : Int) + ((n % 2 : Nat) : Int) - 1 = ((evn n - 1 : Nat) : Int) by omega, show (r : Int) + (i : Int) = ((r + i : Nat) : Int) by omega, ← Int.natCast_emod]
        rfl
      have hAl : mta n r i < n := mta_lt h.1
      have hBi := mtb_iff (n := n) (r := r) (i := i) h.1
      have eb : i ≠ 0 → ((r : Int) - (i : Int) + ((n : Int) + ((n % 2 : Nat) : Int)) - 1).tmod ((n : Int) + ((n % 2 : Nat) : Int) - 1) = ((mtb n r i : Nat) : Int) := fun hi0 => by
        rw [Int.tmod_eq_emod_of_nonneg (by omega), show (r : Int) - (i : Int) + ((n : Int) + ((n % 2 : Nat) : Int)) - 1 = ((r + (evn n - 1) - i : Nat) : Int) by omega, show (n : Int) + ((n % 2 : Nat) : Int) - 1 = ((evn n - 1 : Nat) : Int) by omega, ← Int.natCast_emod]
        unfold mtb
        rw [if_neg hi0]
      have eb0 : i = 0 → (n : Int) + ((n % 2 : Nat) : Int) - 1 = ((mtb n r i : Nat) : Int) := fun hi0 => by
        unfold mtb
        rw [if_pos hi0]; omega
      refine JC_skip ?_
      refine JE_seq ?_
      refine JC_seq ?_
      refine JC_block ?_
      refine JC_seq ?_
      refine JC_region ?_
      refine JL_pd rfl (det_move rfl) ?_
      refine JL_pd rfl (det_assign rfl) ?_
      refine JL_nil ?_
      refine JE_seq ?_
      refine JC_seq ?_
      refine JC_draw [] (by kernel_rfl) ?_
      refine JA_pd (i := 0) rfl (by kernel_rfl) rfl rfl (det_move rfl) ?_
      refine JA_pd (i := 1) rfl (by kernel_rfl) rfl rfl (det_move rfl) ?_
      refine JA_pd (i := 2) rfl (by kernel_rfl) rfl rfl (det_add rfl rfl ⟨by omega, by omega⟩) ?_
      refine JA_pd (i := 3) rfl (by kernel_rfl) rfl rfl (det_move rfl) ?_
      refine JA_pd (i := 4) rfl (by kernel_rfl) rfl rfl (det_sub rfl rfl ⟨by omega, by omega⟩) ?_
      refine JA_pd (i := 5) rfl (by kernel_rfl) rfl rfl (det_rem rfl rfl (by omega)) ?_
      refine JA_pd (i := 6) rfl (by kernel_rfl) rfl rfl (det_move rfl) ?_
      refine JA_pd (i := 7) rfl (by kernel_rfl) rfl rfl (det_move rfl) ?_
      refine JA_pd (i := 8) rfl (by kernel_rfl) rfl rfl (det_sub rfl rfl ⟨by omega, by omega⟩) ?_
      refine JA_pd (i := 9) rfl (by kernel_rfl) rfl rfl (det_move rfl) ?_
      refine JA_pd (i := 10) rfl (by kernel_rfl) rfl rfl (det_add rfl rfl ⟨by omega, by omega⟩) ?_
      refine JA_pd (i := 11) rfl (by kernel_rfl) rfl rfl (det_sub rfl rfl ⟨by omega, by omega⟩) ?_
      refine JA_pd (i := 12) rfl (by kernel_rfl) rfl rfl (det_move rfl) ?_
      refine JA_pd (i := 13) rfl (by kernel_rfl) rfl rfl (det_sub rfl rfl ⟨by omega, by omega⟩) ?_
      refine JA_pd (i := 14) rfl (by kernel_rfl) rfl rfl (det_rem rfl rfl (by omega)) ?_
      refine JA_pd (i := 15) rfl (by kernel_rfl) rfl rfl (det_assign rfl) ?_
      refine JA_pd (i := 16) rfl (by kernel_rfl) rfl rfl (det_assign rfl) ?_
      refine JA_done (by kernel_rfl) ?_
      refine JE_seq ?_
      refine JC_seq ?_
      refine JC_seq ?_
      refine JC_region ?_
      refine JL_pd rfl (det_move rfl) ?_
      refine JL_pd rfl (det_eql rfl rfl) ?_
      refine JL_nil ?_
      refine JE_seq ?_
      -- stop: cond
      rw [ea]
      refine JC_cond rfl (fun h3 => ?_) (fun h3 => ?_)
      · have hi0 : i = 0 := by have := of_decide_eq_true h3; omega
        refine JC_region ?_
        refine JL_pd rfl (det_move rfl) ?_
        refine JL_pd rfl (det_sub rfl rfl ⟨by omega, by omega⟩) ?_
        refine JL_pd rfl (det_assign rfl) ?_
        refine JL_nil ?_
        refine JE_seq ?_
        refine JC_seq ?_
        refine JC_region ?_
        refine JL_pd rfl (det_move rfl) ?_
        refine JL_pd rfl (det_move rfl) ?_
        refine JL_pd rfl (det_lss rfl rfl) ?_
        refine JL_pd rfl (det_move rfl) ?_
        -- stop: guard 3
        rw [eb0 hi0]
        refine JL_is (d0 := 45) true rfl (by exact decide_eq_true (by omega)) (fun g4 => ?_)
        refine JL_guard rfl rfl g4 ?_
        refine JL_pd rfl (det_move rfl) ?_
        refine JL_guard rfl rfl g4 ?_
        refine JL_pd rfl (det_move rfl) ?_
        refine JL_guard rfl rfl g4 ?_
        refine JL_pd rfl (det_lss rfl rfl) ?_
        refine JL_pd rfl (det_pick_t rfl g4 rfl) ?_
        refine JL_nil ?_
        refine JE_seq ?_
        -- stop: cond
        refine JC_cond rfl (fun h5 => ?_) (fun h5 => ?_)
        · have hpi : n % 2 ≤ i := hBi.1 (by have := of_decide_eq_true h5; omega)
          have hro := row_one (n := n) (r := r) (i := i) hpi (fun _ _ => 0) rfl
          refine JC_region ?_
          refine JL_pd rfl (det_move rfl) ?_
          refine JL_pd rfl (det_move rfl) ?_
          refine JL_pd rfl (det_move rfl) ?_
          refine JL_pd rfl (det_min rfl rfl) ?_
          refine JL_pd rfl (det_move rfl) ?_
          refine JL_pd rfl (det_move rfl) ?_
          refine JL_pd rfl (det_max rfl rfl) ?_
          refine JL_pd rfl (det_build rfl (bld_36_0_1_2 _ _ _)) ?_
          refine JL_step rfl rfl rfl (jo_buildSlice rfl (bsl_30_1_0 _ _ _)) fun b58 => ?_
          refine JL_step rfl rfl rfl (jo_append el_30 rfl rfl rfl rfl (by omega)) fun b59 => ?_
          refine JL_pd rfl (det_assign rfl) ?_
          refine JL_nil ?_
          refine JE_block ?_
          refine JE_seq ?_
          refine JC_region ?_
          refine JL_pd rfl (det_add rfl rfl ⟨by omega, by omega⟩) ?_
          refine JL_pd rfl (det_move rfl) ?_
          refine JL_nil ?_
          -- stop: end
          refine JE_roundF hK2 (i + 1, .slice (some ⟨b59.1, 0, none⟩) (i - n % 2 + 1) b59.2) (by simp only; omega) (by simp only; omega) (stsub_consI rfl (by simp only; omega) (stsub_cons rfl stsub_nil)) (ht_ow (by simp only; omega) (by simp only; rw [show i + 1 - n % 2 = i - n % 2 + 1 by omega, rowM_succ, ← hro]) ht_nil)
        · have hpi : i + 1 - n % 2 = i - n % 2 := by
            have : ¬ n % 2 ≤ i := fun e => by have := hBi.2 e; have := of_decide_eq_false h5; omega
            omega
          refine JC_skip ?_
          refine JE_block ?_
          refine JE_seq ?_
          refine JC_region ?_
          refine JL_pd rfl (det_add rfl rfl ⟨by omega, by omega⟩) ?_
          refine JL_pd rfl (det_move rfl) ?_
          refine JL_nil ?_
          -- stop: end
          refine JE_roundF hK2 (i + 1, rv) (by simp only; omega) (by simp only; omega) (stsub_consI rfl (by simp only; omega) (stsub_cons rfl stsub_nil)) (ht_ow (by simp only; rw [hpi]) (by simp only; rw [hpi]) ht_nil)
      · have hi0 : i ≠ 0 := by have := of_decide_eq_false h3; omega
        refine JC_skip ?_
        refine JE_seq ?_
        refine JC_seq ?_
        refine JC_region ?_
        refine JL_pd rfl (det_move rfl) ?_
        refine JL_pd rfl (det_move rfl) ?_
        refine JL_pd rfl (det_lss rfl rfl) ?_
        refine JL_pd rfl (det_move rfl) ?_
        -- stop: guard 3
        rw [eb hi0]
        refine JL_is (d0 := 45) true rfl (by exact decide_eq_true (by omega)) (fun g4 => ?_)
        refine JL_guard rfl rfl g4 ?_
        refine JL_pd rfl (det_move rfl) ?_
        refine JL_guard rfl rfl g4 ?_
        refine JL_pd rfl (det_move rfl) ?_
        refine JL_guard rfl rfl g4 ?_
        refine JL_pd rfl (det_lss rfl rfl) ?_
        refine JL_pd rfl (det_pick_t rfl g4 rfl) ?_
        refine JL_nil ?_
        refine JE_seq ?_
        -- stop: cond
        refine JC_cond rfl (fun h5 => ?_) (fun h5 => ?_)
        · have hpi : n % 2 ≤ i := hBi.1 (by have := of_decide_eq_true h5; omega)
          have hro := row_one (n := n) (r := r) (i := i) hpi (fun _ _ => 0) rfl
          refine JC_region ?_
          refine JL_pd rfl (det_move rfl) ?_
          refine JL_pd rfl (det_move rfl) ?_
          refine JL_pd rfl (det_move rfl) ?_
          refine JL_pd rfl (det_min rfl rfl) ?_
          refine JL_pd rfl (det_move rfl) ?_
          refine JL_pd rfl (det_move rfl) ?_
          refine JL_pd rfl (det_max rfl rfl) ?_
          refine JL_pd rfl (det_build rfl (bld_36_0_1_2 _ _ _)) ?_
          refine JL_step rfl rfl rfl (jo_buildSlice rfl (bsl_30_1_0 _ _ _)) fun b58 => ?_
          refine JL_step rfl rfl rfl (jo_append el_30 rfl rfl rfl rfl (by omega)) fun b59 => ?_
          refine JL_pd rfl (det_assign rfl) ?_
          refine JL_nil ?_
          refine JE_block ?_
          refine JE_seq ?_
          refine JC_region ?_
          refine JL_pd rfl (det_add rfl rfl ⟨by omega, by omega⟩) ?_
          refine JL_pd rfl (det_move rfl) ?_
          refine JL_nil ?_
          -- stop: end
          refine JE_roundF hK2 (i + 1, .slice (some ⟨b59.1, 0, none⟩) (i - n % 2 + 1) b59.2) (by simp only; omega) (by simp only; omega) (stsub_consI rfl (by simp only; omega) (stsub_cons rfl stsub_nil)) (ht_ow (by simp only; omega) (by simp only; rw [show i + 1 - n % 2 = i - n % 2 + 1 by omega, rowM_succ, ← hro]) ht_nil)
        · have hpi : i + 1 - n % 2 = i - n % 2 := by
            have : ¬ n % 2 ≤ i := fun e => by have := hBi.2 e; have := of_decide_eq_false h5; omega
            omega
          refine JC_skip ?_
          refine JE_block ?_
          refine JE_seq ?_
          refine JC_region ?_
          refine JL_pd rfl (det_add rfl rfl ⟨by omega, by omega⟩) ?_
          refine JL_pd rfl (det_move rfl) ?_
          refine JL_nil ?_
          -- stop: end
          refine JE_roundF hK2 (i + 1, rv) (by simp only; omega) (by simp only; omega) (stsub_consI rfl (by simp only; omega) (stsub_cons rfl stsub_nil)) (ht_ow (by simp only; rw [hpi]) (by simp only; rw [hpi]) ht_nil)
    · obtain rfl : i = n / 2 + n % 2 := by omega
      have hmm : n / 2 + n % 2 - n % 2 = n / 2 := by omega
      rw [hmm]
      refine JC_exit ?_
      refine JE_seq_exit ?_
      refine JE_then_exit ?_
      refine JE_block_here ?_
      refine JE_seq ?_
      refine JC_region ?_
      refine JL_form rv (by omega) ?_
      rintro rb rc rfl
      refine JL_pd rfl (det_move rfl) ?_
      refine JL_pd rfl (det_move rfl) ?_
      refine JL_step rfl rfl rfl (jo_buildSlice rfl (bsl_22_1_0 _ _ _)) fun b63 => ?_
      refine JL_step rfl rfl rfl (jo_append el_22 rfl rfl rfl rfl (by omega)) fun b64 => ?_
      refine JL_pd rfl (det_assign rfl) ?_
      refine JL_nil ?_
      refine JE_block ?_
      refine JE_seq ?_
      refine JC_region ?_
      refine JL_pd rfl (det_add rfl rfl ⟨by omega, by omega⟩) ?_
      refine JL_pd rfl (det_move rfl) ?_
      refine JL_nil ?_
      -- stop: end
      refine JE_grqAdd rb (rowM n (fun _ _ => 0) (n / 2)) (fun _ _ => rfl) (by rw [List.length_map, hrl]) ?_
      refine JE_roundF hK (r + 1, .slice (some ⟨b64.1, 0, none⟩) (rs.length + 1) b64.2, rs ++ [(rb, rc)]) ⟨by simp only; omega, by simp only [List.length_append, List.length_singleton, hrl]⟩ (by simp only; omega) (stsub_consI rfl (by simp only; omega) (stsub_cons rfl stsub_nil)) (ht_ow (by simp) (by rw [List.flatMap_append]; rfl) (by rw [List.map_append, List.map_cons, List.map_nil]; exact ht_cons ht_nil))
  · obtain rfl : r = n - 1 + n % 2 := by omega
    refine JC_slice (enc := encRw (n / 2)) (v := v) rs noFp rfl rfl ?_
    rintro av cv rfl
    refine JC_exit ?_
    refine JE_seq_exit ?_
    refine JE_then_exit ?_
    refine JE_block_here ?_
    refine JE_seq ?_
    refine JC_seq ?_
    refine JC_region ?_
    refine JL_pd rfl (det_move rfl) ?_
    refine JL_pd rfl (det_assign rfl) ?_
    refine JL_nil ?_
    refine JE_seq ?_
    refine JC_ret ?_
    -- stop: out
    refine JE_out (.inl rfl) (av, cv, ⟨rs, hrl⟩) (results1 Try.results21 (res_tmp rfl)) (by rw [hrl]) (List.Perm.refl _) (fun w h => by have h1 := h.1; rw [hrl] at h1; exact h1)
end Go.Proofs.Ythpkgabckklojaa.Bl

/- League: schedules: lanes are given. -/
namespace Go.Proofs.Ythpkgabckklojaa.Bl
open Go.RowKit Go.Shelf

/-- What give makes of lanes, uses and what is taken. -/
structure GvOk (H R round at_ : Nat) (q : Nat → Nat → Nat) (u : Nat → Int) (tk : Nat → Bool) (un : Int) (p : Bool × (Nat → Nat → Nat) × (Nat → Int) × (Nat → Bool)) : Prop where
  good : p.1 = true → ∀ r, r < R → GoodR H H (p.2.1 r)
  back : p.1 = false → Ahead round at_ q p.2.1 ∧ p.2.2.1 = u ∧ p.2.2.2 = tk
  must : un = 100 → p.1 = true
theorem made_rep (zs : Array Value) (v : Value) (n : Nat) (h : zs = #[v]) : (madeCells zs n).toList = List.replicate n v := by
  subst h
  refine List.ext_getElem (by simp [madeCells]) fun j h1 h2 => ?_
  simp [madeCells, Nat.mod_one]
theorem rs_get {rs : List (Nat × Nat)} {i : Nat} (h : i < rs.length) : (rs.map (·.1))[i]? = some rs[i].1 := by simp [h]
theorem encP_at {n : Nat} {f : Nat → Int} {i k : Nat} (e : i = k) (h : k < n) : (encP n f)[i]? = some (I (f k)) := by
  subst e; simp [encP, h]
theorem encP_put (n : Nat) (f : Nat → Int) {i k : Nat} (e : i = k) (x : Int) : splice (encP n f) i [I x] = encP n (updP f k x) := by
  subst e
  have := encP_set n f i x
  rwa [Nat.zero_add, Nat.mul_one] at this
theorem bd15 {u : Nat → Int} {c : Nat} (h : Bd u c) (hc : c ≤ 15) : Bd u 15 := fun x hx => by
  have := h x hx; omega
set_option maxRecDepth 100000 in
set_option maxHeartbeats 4000000 in
set_option synthInstance.maxHeartbeats 1000000 in
set_option synthInstance.maxSize 2000 in
theorem give_j (n H R : Nat) (h : 2 ≤ n ∧ n ≤ 6) (hH : H = n / 2) (hR : R ≤ 5) (oa : Option Addr) (oc : Nat) (rs : List (Nat × Nat)) (hrs : rs.length = R) (un : Int) (hun : 0 ≤ un ∧ un ≤ 100) (lb ub nb unb gb : Nat) :
    ∀ (m round at_ : Nat) (q : Nat → Nat → Nat) (u : Nat → Int) (tk : Nat → Bool) (tb : Nat), 4 * (R - round) + (H - at_) ≤ m → round ≤ R → at_ ≤ H → (round = R → at_ = 0) → Laid H round at_ q → Tk H at_ (q round) tk → Bd u (round * H + at_) →
    Cx Try.prog 53 [I round, I at_, .slice (some ⟨tb, 0, none⟩) H H, pt lb, pt ub, pt nb, pt unb, pt gb] [bx lb [.slice oa R oc], bx ub (encP 18 u), bx nb [I n], bx unb [I un], bx gb [.func (.func 53) #[] #[pt lb, pt ub, pt nb, pt unb, pt gb]], bx tb (encT H tk), grq (rs.map (·.1)) (rowM n q H)] (KSl oa R oc (encRw H) rs)
      (fun p : {p : Bool × (Nat → Nat → Nat) × (Nat → Int) × (Nat → Bool) // GvOk H R round at_ q u tk un p} => .bool p.1.1)
      (fun p => [bx lb [.slice oa R oc], bx ub (encP 18 p.1.2.2.1), bx nb [I n], bx unb [I un], bx gb [.func (.func 53) #[] #[pt lb, pt ub, pt nb, pt unb, pt gb]], bx tb (encT H p.1.2.2.2), grq (rs.map (·.1)) (rowM n p.1.2.1 H)]) (fun _ => KTrue) := by
  subst hrs
  intro m
  induction m using Nat.strongRecOn
  rename_i m IH
  intro round at_ q u tk tb hm hro hat hra hL hT hB
  have hH3 : H ≤ 3 := by omega
  have hH1 : 1 ≤ H := by omega
  have hrH : round * H ≤ 5 * 3 := Nat.mul_le_mul (by omega) hH3
  have hhl := halls_j n h.2
  rw [← hH] at hhl
  refine Cx_of Try.func53 rfl Try.ntmps53 rfl fun w0 M0 => ?_
  refine JC_seq ?_
  refine JC_region ?_
  refine JL_pd rfl (det_assign rfl) ?_
  refine JL_nil ?_
  refine JE_seq ?_
  refine JC_scope rfl ?_
  refine JC_seq ?_
  refine JC_block ?_
  refine JC_seq ?_
  refine JC_region ?_
  refine JL_pd rfl (det_move rfl) ?_
  refine JL_dt rfl (det_loadK rfl Try.isAgg22 rfl) ?_
  refine JL_pd rfl (det_len rfl Try.runUnderlying22) ?_
  refine JL_pd rfl (det_eql rfl rfl) ?_
  refine JL_pd rfl (det_assign rfl) ?_
  refine JL_nil ?_
  refine JE_seq ?_
  -- stop: cond
  refine JC_cond rfl (fun h1 => ?_) (fun h1 => ?_)
  · have hrR : round = rs.length := by have := of_decide_eq_true h1; omega
    have ha0 := hra hrR
    refine JC_seq ?_
    refine JC_draw [] (by kernel_rfl) ?_
    refine JA_dt (i := 0) rfl (by kernel_rfl) (by kernel_rfl) rfl rfl (det_loadKA rfl Try.isAgg109 Try.sizeOf109 rfl rfl) ?_
    refine JA_dt (i := 1) rfl (by kernel_rfl) (by kernel_rfl) rfl rfl (det_loadK rfl Try.isAgg3 rfl) ?_
    refine JA_dt (i := 3) rfl (by kernel_rfl) (by kernel_rfl) rfl rfl (det_loadK rfl Try.isAgg3 rfl) ?_
    refine JA_one (i := 2) (by kernel_rfl) rfl rfl (jo_call rfl rfl Try.call54 rfl (uneven_j n u h (bd15 hB (by omega)))) (fun _ => ⟨hsub_drop 0 rfl, fun _ h => h.2⟩) fun x21 => ?_
    refine JA_pd (i := 4) rfl (by kernel_rfl) rfl rfl (det_leq rfl rfl) ?_
    refine JA_pd (i := 5) rfl (by kernel_rfl) rfl rfl (det_assign rfl) ?_
    refine JA_done (by kernel_rfl) ?_
    refine JE_seq ?_
    refine JC_ret ?_
    refine JE_block_ret ?_
    refine JE_seq_ret ?_
    refine JE_scope_ret ?_
    -- stop: out
    refine JE_out (.inl rfl) ⟨(decide (x21.1 ≤ un), q, u, tk), ⟨fun _ r hr => hL.rows r (by omega), fun _ => ⟨.refl _ _ _, rfl, rfl⟩, fun e => decide_eq_true (by have := x21.2; omega)⟩⟩ (results1 Try.results53 (res_tmp rfl)) rfl ht7 (fun _ _ => trivial)
  · have hrR : round < rs.length := by
      have := of_decide_eq_false h1
      omega
    have hgt := rs_get (rs := rs) (i := round) (by omega)
    refine JC_seq ?_
    refine JC_region ?_
    refine JL_pd rfl (det_move rfl) ?_
    refine JL_dt rfl (det_loadK rfl Try.isAgg22 rfl) ?_
    refine JL_pd rfl (det_move rfl) ?_
    refine JL_dt rfl (det_indexAddr (i := round) rfl rfl rfl hrR Try.runUnderlying22 Try.sizeOf30) ?_
    refine JL_dt rfl (det_loadE rfl (by first | assumption | omega | decide) Try.isAgg30 rfl rfl) ?_
    refine JL_pd rfl (det_len rfl Try.runUnderlying30) ?_
    refine JL_pd rfl (det_eql rfl rfl) ?_
    refine JL_pd rfl (det_assign rfl) ?_
    refine JL_nil ?_
    refine JE_seq ?_
    -- stop: cond
    refine JC_cond rfl (fun h2 => ?_) (fun h2 => ?_)
    · have hatH : at_ = H := by have := of_decide_eq_true h2; omega
      have hrH4 : round * H ≤ 4 * 3 := Nat.mul_le_mul (by omega) hH3
      refine JC_seq ?_
      refine JC_draw [11] (by kernel_rfl) ?_
      refine JA_dt (i := 0) rfl (by kernel_rfl) (by kernel_rfl) rfl rfl (det_loadKA rfl Try.isAgg109 Try.sizeOf109 rfl rfl) ?_
      refine JA_dt (i := 1) rfl (by kernel_rfl) (by kernel_rfl) rfl rfl (det_loadK rfl Try.isAgg3 rfl) ?_
      refine JA_dt (i := 2) rfl (by kernel_rfl) (by kernel_rfl) rfl rfl (det_loadK rfl Try.isAgg3 rfl) ?_
      refine JA_one (i := 3) (by kernel_rfl) rfl rfl (jo_call rfl rfl Try.call55 rfl (most_j n u un h (bd15 hB (by omega)) hun)) (fun _ => ⟨hsub_drop 0 rfl, fun _ h => h.2⟩) fun x35 => ?_
      refine JA_pd (i := 4) rfl (by kernel_rfl) rfl rfl (det_move rfl) ?_
      -- stop: guard 4
      refine JA_split (d0 := 36) rfl (fun h3 => ?_) (fun h3 => ?_)
      · skip
        have hIH := fun tb2 => IH (4 * (rs.length - (round + 1)) + (H - 0)) (by omega) (round + 1) 0 q u (fun _ => false) tb2 (Nat.le_refl _) (by omega) (by omega) (fun _ => rfl) (hatH ▸ hL).next (Tk.zero _ _) (by rw [Nat.succ_mul, Nat.add_zero]; rw [hatH] at hB; exact hB)
        refine JA_gdt (i := 5) rfl (by kernel_rfl) (by kernel_rfl) rfl rfl rfl rfl h3 (det_loadK rfl Try.isAgg110 rfl) ?_
        refine JA_gpd (i := 6) rfl (by kernel_rfl) rfl rfl rfl rfl h3 (det_move rfl) ?_
        refine JA_gpd (i := 7) rfl (by kernel_rfl) rfl rfl rfl rfl h3 (det_add rfl rfl ⟨by omega, by omega⟩) ?_
        refine JA_gdt (i := 8) rfl (by kernel_rfl) (by kernel_rfl) rfl rfl rfl rfl h3 (det_loadK rfl Try.isAgg3 rfl) ?_
        refine JA_gone (i := 9) (by kernel_rfl) rfl rfl rfl h3 rfl (jo_callv rfl rfl Try.call56 rfl (hhl)) (fun _ => ⟨hsub_refl, fun _ h => h⟩) fun _ => ?_
        refine JA_gone (i := 10) (by kernel_rfl) rfl rfl rfl h3 rfl (jo_makeBox (zv := .bool false) (z := 1) (bytes := 1) (n := H) (encT H fun _ => false) (by rw [← encT_false, Nat.mul_one]; exact made_rep _ _ _ rfl) rfl rfl rfl Try.underlying111 (by kernel_rfl) (by omega) (by omega)) (fun _ => ⟨hsub_drop 1 rfl, fun _ h => h⟩) fun b42 => ?_
        -- stop: op 11 t43 := (call (Call (value t37) (t39 0 t42) (3 3 111)))   <5 7 10 9 4>   GUARD (some (Prod 4 true))   118
        refine JA_gtail (i := 11) (by kernel_rfl) rfl rfl rfl h3 rfl rfl rfl (jo_callx rfl rfl Try.call53 rfl (hIH b42) (ht7)) fun w4 => ?_
        refine JT_pd (i := 12) rfl (by kernel_rfl) rfl rfl (det_pick_t rfl h3 rfl) ?_
        refine JT_pd (i := 13) rfl (by kernel_rfl) rfl rfl (det_assign rfl) ?_
        refine JT_done (by kernel_rfl) ?_
        refine JE_seq ?_
        refine JC_ret ?_
        refine JE_block_ret ?_
        refine JE_seq_ret ?_
        refine JE_scope_ret ?_
        -- stop: out
        refine JE_out (.inl rfl) ⟨(w4.1.1, w4.1.2.1, w4.1.2.2.1, tk), ⟨w4.2.good, fun e => ⟨(w4.2.back e).1.next, (w4.2.back e).2.1, rfl⟩, w4.2.must⟩⟩ (results1 Try.results53 (res_tmp rfl)) rfl ht7 (fun _ _ => trivial)
      · refine JA_skip (i := 5) rfl (by kernel_rfl) rfl rfl rfl rfl h3 ?_
        refine JA_skip (i := 6) rfl (by kernel_rfl) rfl rfl rfl rfl h3 ?_
        refine JA_skip (i := 7) rfl (by kernel_rfl) rfl rfl rfl rfl h3 ?_
        refine JA_skip (i := 8) rfl (by kernel_rfl) rfl rfl rfl rfl h3 ?_
        refine JA_skip (i := 9) rfl (by kernel_rfl) rfl rfl rfl rfl h3 ?_
        refine JA_skip (i := 10) rfl (by kernel_rfl) rfl rfl rfl rfl h3 ?_
        refine JA_skipt (i := 11) (by kernel_rfl) rfl rfl rfl h3 rfl rfl rfl ?_
        refine JT_pd (i := 12) rfl (by kernel_rfl) rfl rfl (det_pick_f rfl h3 rfl) ?_
        refine JT_pd (i := 13) rfl (by kernel_rfl) rfl rfl (det_assign rfl) ?_
        refine JT_done (by kernel_rfl) ?_
        refine JE_seq ?_
        refine JC_ret ?_
        refine JE_block_ret ?_
        refine JE_seq_ret ?_
        refine JE_scope_ret ?_
        -- stop: out
        refine JE_out (.inl rfl) ⟨(false, q, u, tk), ⟨fun e => (by cases e), fun _ => ⟨.refl _ _ _, rfl, rfl⟩, fun e => (by rw [x35.2 e] at h3; cases h3)⟩⟩ (results1 Try.results53 (res_tmp rfl)) rfl ht7 (fun _ _ => trivial)
    · have hatH : at_ < H := by
        have := of_decide_eq_false h2
        omega
      have hA6 : mA n round at_ < 6 := by have := mA_lt (n := n) (r := round) (j := at_) h.1 (by omega); omega
      have hB6 : mB n round at_ < 6 := by have := mB_lt (n := n) (r := round) (j := at_) h.1 (by omega); omega
      refine JC_skip ?_
      refine JE_block ?_
      refine JE_seq ?_
      refine JC_seq ?_
      refine JC_region ?_
      refine JL_dt rfl (det_loadK rfl Try.isAgg22 rfl) ?_
      refine JL_pd rfl (det_move rfl) ?_
      refine JL_dt rfl (det_indexAddr (i := round) rfl rfl rfl hrR Try.runUnderlying22 Try.sizeOf30) ?_
      refine JL_dt rfl (det_loadE rfl (by first | assumption | omega | decide) Try.isAgg30 rfl rfl) ?_
      refine JL_pd rfl (det_move rfl) ?_
      refine JL_pd rfl (det_indexOwn (i := at_) rfl rfl rfl hatH Try.runUnderlying30 Try.sizeOf36) ?_
      refine JL_pd rfl (det_assign rfl) ?_
      refine JL_nil ?_
      refine JE_seq ?_
      refine JC_seq ?_
      refine JC_label ?_
      refine JE_seq ?_
      refine JC_seq ?_
      refine JC_seq ?_
      refine JC_region ?_
      refine JL_dt rfl (det_loadK rfl Try.isAgg3 rfl) ?_
      refine JL_step rfl rfl rfl (jo_callv rfl rfl Try.call56 rfl (hhl)) fun _ => ?_
      refine JL_pd rfl (det_move rfl) ?_
      refine JL_nil ?_
      refine JE_seq ?_
      refine JC_block ?_
      -- stop: loop
      refine JC_loopF (γ := Nat × { q' : Nat → Nat → Nat // Ahead round at_ q q' }) (fun s => s.1 ≤ H ∧ (un = 100 → ∀ l, l < s.1 → tk l = true)) (fun s => [(53, I s.1)]) (fun s => [bx lb [.slice oa rs.length oc], bx ub (encP 18 u), bx nb [I n], bx unb [I un], bx gb [.func (.func 53) #[] #[pt lb, pt ub, pt nb, pt unb, pt gb]], bx tb (encT H tk), grq (rs.map (·.1)) (rowM n s.2.1 H)]) (fun s => H - s.1) (0, ⟨q, .refl _ _ _⟩) ⟨Nat.zero_le _, fun _ l hl => absurd hl (Nat.not_lt_zero l)⟩ (stsub_consI rfl rfl stsub_nil) (ht_cons (ht_cons (ht_cons (ht_cons (ht_cons (ht_cons (ht_cons ht_nil))))))) ?_
      rintro ⟨l, q1, hq1⟩ ⟨hl, hall⟩ K hK
      dsimp only [List.cons_append, List.nil_append] at hl hall ⊢
      refine JC_seq ?_
      refine JC_region ?_
      refine JL_pd rfl (det_lss rfl rfl) ?_
      refine JL_nil ?_
      refine JE_seq ?_
      refine JC_seq ?_
      -- stop: cond
      refine JC_if rfl (fun h3 => ?_) (fun h3 => ?_)
      · have hlH : l < H := by omega
        refine JC_skip ?_
        refine JE_seq ?_
        refine JC_seq ?_
        refine JC_block ?_
        refine JC_seq ?_
        refine JC_region ?_
        refine JL_pd rfl (det_move rfl) ?_
        refine JL_pd rfl (det_assign rfl) ?_
        refine JL_nil ?_
        refine JE_seq ?_
        refine JC_seq ?_
        refine JC_seq ?_
        refine JC_region ?_
        refine JL_pd rfl (det_move rfl) ?_
        refine JL_pd rfl (det_move rfl) ?_
        refine JL_pd rfl (det_indexOwn (i := l) rfl rfl rfl hlH Try.runUnderlying111 Try.sizeOf4) ?_
        refine JL_dt rfl (det_loadK (v := .bool (tk l)) rfl Try.isAgg4 (encT_get hlH)) ?_
        refine JL_nil ?_
        refine JE_seq ?_
        -- stop: cond
        refine JC_cond rfl (fun h4 => ?_) (fun h4 => ?_)
        · refine JC_exit ?_
          refine JE_seq_exit ?_
          refine JE_block_here ?_
          refine JE_seq ?_
          refine JC_region ?_
          refine JL_pd rfl (det_add rfl rfl ⟨by omega, by omega⟩) ?_
          refine JL_pd rfl (det_move rfl) ?_
          refine JL_nil ?_
          -- stop: end
          refine JE_roundF hK (l + 1, ⟨q1, hq1⟩) ⟨by simp only; omega, fun e x hx => ?_⟩ (by simp only; omega) (stsub_consI rfl (by simp only; omega) stsub_nil) (ht_cons (ht_cons (ht_cons (ht_cons (ht_cons (ht_cons (ht_cons ht_nil)))))))
          rcases (by simp only at hx; omega : x < l ∨ x = l) with hx | rfl
          · exact hall e x hx
          · exact h4
        · have hrH4 : round * H ≤ 4 * 3 := Nat.mul_le_mul (by omega) hH3
          obtain ⟨kA, hkA⟩ : ∃ kA, 0 + mA n round at_ * 3 + l * 1 = kA := ⟨_, rfl⟩
          obtain ⟨kB, hkB⟩ : ∃ kB, 0 + mB n round at_ * 3 + l * 1 = kB := ⟨_, rfl⟩
          have hA18 : kA < 18 := by omega
          have hB18 : kB < 18 := by omega
          have hfr : tk l = false := h4
          obtain ⟨u1, hu1⟩ : ∃ u1, u1 = updP u kA (u kA + 1) := ⟨_, rfl⟩
          obtain ⟨u2, hu2⟩ : ∃ u2, u2 = updP u1 kB (u1 kB + 1) := ⟨_, rfl⟩
          have hB2 : Bd u2 (round * H + (at_ + 1)) := by rw [hu2, hu1, ← Nat.add_assoc]; exact hB.step hA18 hB18
          have bA := hB kA hA18
          have bB : 0 ≤ u1 kB ∧ u1 kB ≤ 31 := by
            have := hB kB hB18
            rw [hu1]; unfold updP
            split <;> omega
          have bA2 := hB2 kA hA18
          have bB3 : -1 ≤ updP u2 kA (u2 kA - 1) kB ∧ updP u2 kA (u2 kA - 1) kB ≤ 40 := by
            have := hB2 kB hB18
            unfold updP
            split <;> omega
          have hbk := upd_back2 u kA kB u2 (by rw [hu2, hu1])
          have hgr := fun (q2 : Nat → Nat → Nat) (c : Nat) (hc : c < 3) => rowM_get n q2 H round at_ c hatH hc
          have hL1 := hL.of_ahead hq1
          have hT1 := hT.ahead hq1
          have hIH := IH (4 * (rs.length - round) + (H - (at_ + 1))) (by omega) round (at_ + 1) (updQ q1 round at_ l) u2 (updB tk l true) tb (Nat.le_refl _) hro (by omega) (fun e => absurd e (by omega)) (hL1.step hT1 hlH hfr) hT1.step hB2
          rw [show ((at_ + 1 : Nat) : Int) = (at_ : Int) + 1 by omega] at hIH
          refine JC_skip ?_
          refine JE_seq ?_
          refine JC_seq ?_
          refine JC_region ?_
          refine JL_pd rfl (det_move rfl) ?_
          refine JL_pd rfl (det_move rfl) ?_
          refine JL_pd rfl (det_move rfl) ?_
          refine JL_pd rfl (det_move rfl) ?_
          refine JL_pd rfl (det_nilCheck rfl) ?_
          refine JL_pd rfl (det_fieldAddr rfl fo_36_2) ?_
          refine JL_step0 rfl rfl (jo_storeQ (vs := [I l]) round (rowM n (updQ q1 round at_ l) H) rfl rfl rfl hgt (rowM_set n q1 H round at_ l hatH) (fun j hj _ => rowM_other n q1 H round at_ l hj) Try.sizeOf3 (by rw [rowM_len]; simp only [List.length_cons, List.length_nil]; omega) rfl) fun _ => ?_
          refine JL_pd rfl (det_indexOwn (i := l) rfl rfl rfl hlH Try.runUnderlying111 Try.sizeOf4) ?_
          refine JL_step0 rfl rfl (jo_store (vs := [.bool true]) (cs := encT H tk) (cs' := encT H (updB tk l true)) rfl rfl rfl (encT_set H tk l true) Try.sizeOf4 (by rw [encT_len, Nat.ble_eq]; simp only [List.length_cons, List.length_nil]; omega) rfl) fun _ => ?_
          refine JL_nil ?_
          refine JE_seq ?_
          refine JC_seq ?_
          refine JC_draw [11] (by kernel_rfl) ?_
          refine JA_pd (i := 0) rfl (by kernel_rfl) rfl rfl (det_move rfl) ?_
          refine JA_pd (i := 1) rfl (by kernel_rfl) rfl rfl (det_nilCheck rfl) ?_
          refine JA_pd (i := 2) rfl (by kernel_rfl) rfl rfl (det_fieldAddr rfl fo_36_0) ?_
          refine JA_dt (i := 3) rfl (by kernel_rfl) (by kernel_rfl) rfl rfl (det_loadQ1 round (v := I (mA n round at_)) rfl hgt Try.isAgg3 ((hgr _ 0 (by decide)).trans rfl)) ?_
          refine JA_pd (i := 4) rfl (by kernel_rfl) rfl rfl (det_move rfl) ?_
          refine JA_pd (i := 5) rfl (by kernel_rfl) rfl rfl (det_indexArr (i := mA n round at_) rfl rfl rfl hA6 Try.runUnderlying109 Try.sizeOf107) ?_
          refine JA_pd (i := 6) rfl (by kernel_rfl) rfl rfl (det_indexArr (i := l) rfl rfl rfl (by omega) Try.runUnderlying107 Try.sizeOf3) ?_
          refine JA_dt (i := 7) rfl (by kernel_rfl) (by kernel_rfl) rfl rfl (det_loadK rfl Try.isAgg3 (encP_at hkA hA18)) ?_
          refine JA_pd (i := 8) rfl (by kernel_rfl) rfl rfl (det_add rfl rfl ⟨by omega, by omega⟩) ?_
          refine JA_pd (i := 9) rfl (by kernel_rfl) rfl rfl (det_indexArr (i := mA n round at_) rfl rfl rfl hA6 Try.runUnderlying109 Try.sizeOf107) ?_
          refine JA_pd (i := 10) rfl (by kernel_rfl) rfl rfl (det_indexArr (i := l) rfl rfl rfl (by omega) Try.runUnderlying107 Try.sizeOf3) ?_
          refine JA_tail (i := 11) (by kernel_rfl) rfl rfl rfl rfl (jo_store rfl rfl rfl ((encP_put 18 u hkA _).trans (by rw [← hu1])) Try.sizeOf3 (by rw [encP_len, Nat.ble_eq]; simp only [List.length_cons, List.length_nil]; omega) rfl) fun _ => ?_
          refine JT_done (by kernel_rfl) ?_
          refine JE_seq ?_
          refine JC_seq ?_
          refine JC_draw [11] (by kernel_rfl) ?_
          refine JA_pd (i := 0) rfl (by kernel_rfl) rfl rfl (det_move rfl) ?_
          refine JA_pd (i := 1) rfl (by kernel_rfl) rfl rfl (det_nilCheck rfl) ?_
          refine JA_pd (i := 2) rfl (by kernel_rfl) rfl rfl (det_fieldAddr rfl fo_36_1) ?_
          refine JA_dt (i := 3) rfl (by kernel_rfl) (by kernel_rfl) rfl rfl (det_loadQ1 round (v := I (mB n round at_)) rfl hgt Try.isAgg3 ((hgr _ 1 (by decide)).trans rfl)) ?_
          refine JA_pd (i := 4) rfl (by kernel_rfl) rfl rfl (det_move rfl) ?_
          refine JA_pd (i := 5) rfl (by kernel_rfl) rfl rfl (det_indexArr (i := mB n round at_) rfl rfl rfl hB6 Try.runUnderlying109 Try.sizeOf107) ?_
          refine JA_pd (i := 6) rfl (by kernel_rfl) rfl rfl (det_indexArr (i := l) rfl rfl rfl (by omega) Try.runUnderlying107 Try.sizeOf3) ?_
          refine JA_dt (i := 7) rfl (by kernel_rfl) (by kernel_rfl) rfl rfl (det_loadK rfl Try.isAgg3 (encP_at hkB hB18)) ?_
          refine JA_pd (i := 8) rfl (by kernel_rfl) rfl rfl (det_add rfl rfl ⟨by omega, by omega⟩) ?_
          refine JA_pd (i := 9) rfl (by kernel_rfl) rfl rfl (det_indexArr (i := mB n round at_) rfl rfl rfl hB6 Try.runUnderlying109 Try.sizeOf107) ?_
          refine JA_pd (i := 10) rfl (by kernel_rfl) rfl rfl (det_indexArr (i := l) rfl rfl rfl (by omega) Try.runUnderlying107 Try.sizeOf3) ?_
          refine JA_tail (i := 11) (by kernel_rfl) rfl rfl rfl rfl (jo_store rfl rfl rfl ((encP_put 18 u1 hkB _).trans (by rw [← hu2])) Try.sizeOf3 (by rw [encP_len, Nat.ble_eq]; simp only [List.length_cons, List.length_nil]; omega) rfl) fun _ => ?_
          refine JT_done (by kernel_rfl) ?_
          refine JE_seq ?_
          refine JC_seq ?_
          refine JC_seq ?_
          refine JC_region ?_
          refine JL_dt rfl (det_loadK rfl Try.isAgg110 rfl) ?_
          refine JL_pd rfl (det_move rfl) ?_
          refine JL_pd rfl (det_move rfl) ?_
          refine JL_pd rfl (det_add rfl rfl ⟨by omega, by omega⟩) ?_
          refine JL_pd rfl (det_move rfl) ?_
          -- stop: op  5 t94 := (call (Call (value t89) (t90 t92 t93) (3 3 111)))   <0 1 3 4>   129
          refine JL_step rfl rfl rfl (jo_callx rfl rfl Try.call53 rfl (hIH) (ht7)) fun w4 => ?_
          refine JL_nil ?_
          refine JE_seq ?_
          -- stop: cond
          obtain ⟨⟨b, q4, u4, tk4⟩, hG⟩ := w4
          dsimp only at hG ⊢
          refine JC_cond rfl (fun h5 => ?_) (fun h5 => ?_)
          · refine JC_seq ?_
            refine JC_region ?_
            refine JL_pd rfl (det_assign rfl) ?_
            refine JL_nil ?_
            refine JE_seq ?_
            refine JC_ret ?_
            refine JE_seq_ret ?_
            refine JE_block_ret ?_
            refine JE_seq_ret ?_
            refine JE_then_ret ?_
            refine JE_block_ret ?_
            refine JE_seq_ret ?_
            refine JE_scope_ret ?_
            -- stop: out
            refine JE_out (.inl rfl) ⟨(true, q4, u4, tk4), ⟨fun _ => hG.good h5, fun e => (by cases e), fun _ => rfl⟩⟩ (results1 Try.results53 (res_tmp rfl)) rfl ht7 (fun _ _ => trivial)
          · obtain ⟨hah, e2, e3⟩ := hG.back h5
            dsimp only at hah e2 e3
            subst e2 e3
            refine JC_skip ?_
            refine JE_seq ?_
            refine JC_seq ?_
            refine JC_region ?_
            refine JL_pd rfl (det_move rfl) ?_
            refine JL_pd rfl (det_move rfl) ?_
            refine JL_pd rfl (det_indexOwn (i := l) rfl rfl rfl hlH Try.runUnderlying111 Try.sizeOf4) ?_
            refine JL_step0 rfl rfl (jo_store (vs := [.bool false]) (cs := encT H (updB tk l true)) (cs' := encT H tk) rfl rfl rfl ((encT_set H _ l false).trans (by rw [updB_back tk l false hfr])) Try.sizeOf4 (by rw [encT_len, Nat.ble_eq]; simp only [List.length_cons, List.length_nil]; omega) rfl) fun _ => ?_
            refine JL_nil ?_
            refine JE_seq ?_
            refine JC_seq ?_
            refine JC_draw [11] (by kernel_rfl) ?_
            refine JA_pd (i := 0) rfl (by kernel_rfl) rfl rfl (det_move rfl) ?_
            refine JA_pd (i := 1) rfl (by kernel_rfl) rfl rfl (det_nilCheck rfl) ?_
            refine JA_pd (i := 2) rfl (by kernel_rfl) rfl rfl (det_fieldAddr rfl fo_36_0) ?_
            refine JA_dt (i := 3) rfl (by kernel_rfl) (by kernel_rfl) rfl rfl (det_loadQ1 round (v := I (mA n round at_)) rfl hgt Try.isAgg3 ((hgr _ 0 (by decide)).trans rfl)) ?_
            refine JA_pd (i := 4) rfl (by kernel_rfl) rfl rfl (det_move rfl) ?_
            refine JA_pd (i := 5) rfl (by kernel_rfl) rfl rfl (det_indexArr (i := mA n round at_) rfl rfl rfl hA6 Try.runUnderlying109 Try.sizeOf107) ?_
            refine JA_pd (i := 6) rfl (by kernel_rfl) rfl rfl (det_indexArr (i := l) rfl rfl rfl (by omega) Try.runUnderlying107 Try.sizeOf3) ?_
            refine JA_dt (i := 7) rfl (by kernel_rfl) (by kernel_rfl) rfl rfl (det_loadK rfl Try.isAgg3 (encP_at hkA hA18)) ?_
            refine JA_pd (i := 8) rfl (by kernel_rfl) rfl rfl (det_sub rfl rfl ⟨by omega, by omega⟩) ?_
            refine JA_pd (i := 9) rfl (by kernel_rfl) rfl rfl (det_indexArr (i := mA n round at_) rfl rfl rfl hA6 Try.runUnderlying109 Try.sizeOf107) ?_
            refine JA_pd (i := 10) rfl (by kernel_rfl) rfl rfl (det_indexArr (i := l) rfl rfl rfl (by omega) Try.runUnderlying107 Try.sizeOf3) ?_
            refine JA_tail (i := 11) (by kernel_rfl) rfl rfl rfl rfl (jo_store rfl rfl rfl (encP_put 18 u4 hkA _) Try.sizeOf3 (by rw [encP_len, Nat.ble_eq]; simp only [List.length_cons, List.length_nil]; omega) rfl) fun _ => ?_
            refine JT_done (by kernel_rfl) ?_
            refine JE_seq ?_
            refine JC_draw [11] (by kernel_rfl) ?_
            refine JA_pd (i := 0) rfl (by kernel_rfl) rfl rfl (det_move rfl) ?_
            refine JA_pd (i := 1) rfl (by kernel_rfl) rfl rfl (det_nilCheck rfl) ?_
            refine JA_pd (i := 2) rfl (by kernel_rfl) rfl rfl (det_fieldAddr rfl fo_36_1) ?_
            refine JA_dt (i := 3) rfl (by kernel_rfl) (by kernel_rfl) rfl rfl (det_loadQ1 round (v := I (mB n round at_)) rfl hgt Try.isAgg3 ((hgr _ 1 (by decide)).trans rfl)) ?_
            refine JA_pd (i := 4) rfl (by kernel_rfl) rfl rfl (det_move rfl) ?_
            refine JA_pd (i := 5) rfl (by kernel_rfl) rfl rfl (det_indexArr (i := mB n round at_) rfl rfl rfl hB6 Try.runUnderlying109 Try.sizeOf107) ?_
            refine JA_pd (i := 6) rfl (by kernel_rfl) rfl rfl (det_indexArr (i := l) rfl rfl rfl (by omega) Try.runUnderlying107 Try.sizeOf3) ?_
            refine JA_dt (i := 7) rfl (by kernel_rfl) (by kernel_rfl) rfl rfl (det_loadK rfl Try.isAgg3 (encP_at hkB hB18)) ?_
            refine JA_pd (i := 8) rfl (by kernel_rfl) rfl rfl (det_sub rfl rfl ⟨by omega, by omega⟩) ?_
            refine JA_pd (i := 9) rfl (by kernel_rfl) rfl rfl (det_indexArr (i := mB n round at_) rfl rfl rfl hB6 Try.runUnderlying109 Try.sizeOf107) ?_
            refine JA_pd (i := 10) rfl (by kernel_rfl) rfl rfl (det_indexArr (i := l) rfl rfl rfl (by omega) Try.runUnderlying107 Try.sizeOf3) ?_
            refine JA_tail (i := 11) (by kernel_rfl) rfl rfl rfl rfl (jo_store rfl rfl rfl ((encP_put 18 (updP u4 kA (u4 kA - 1)) hkB _).trans (by rw [hbk])) Try.sizeOf3 (by rw [encP_len, Nat.ble_eq]; simp only [List.length_cons, List.length_nil]; omega) rfl) fun _ => ?_
            refine JT_done (by kernel_rfl) ?_
            refine JE_block ?_
            refine JE_seq ?_
            refine JC_region ?_
            refine JL_pd rfl (det_add rfl rfl ⟨by omega, by omega⟩) ?_
            refine JL_pd rfl (det_move rfl) ?_
            refine JL_nil ?_
            -- stop: end
            refine JE_roundF hK (l + 1, ⟨q4, hq1.trans ((Ahead.upd round at_ l q1).trans hah.less)⟩) ⟨by simp only; omega, fun e x hx => ?_⟩ (by simp only; omega) (stsub_consI rfl (by simp only; omega) stsub_nil) (ht_cons (ht_cons (ht_cons (ht_cons (ht_cons (ht_cons (ht_cons ht_nil)))))))
            have := hG.must e
            rw [h5] at this; cases this
      · obtain rfl : l = H := by omega
        refine JC_exit ?_
        refine JE_seq_exit ?_
        refine JE_then_exit ?_
        refine JE_block_here ?_
        refine JE_seq ?_
        refine JC_seq ?_
        refine JC_region ?_
        refine JL_pd rfl (det_assign rfl) ?_
        refine JL_nil ?_
        refine JE_seq ?_
        refine JC_ret ?_
        refine JE_scope_ret ?_
        -- stop: out
        refine JE_out (.inl rfl) ⟨(false, q1, u, tk), ⟨fun e => (by cases e), fun _ => ⟨hq1, rfl, rfl⟩, fun e => (hT.full hH3 hatH (hall e)).elim⟩⟩ (results1 Try.results53 (res_tmp rfl)) rfl ht7 (fun _ _ => trivial)
end Go.Proofs.Ythpkgabckklojaa.Bl

/- League: schedules: lay, Build. -/
namespace Go.Proofs.Ythpkgabckklojaa.Bl
open Go.RowKit Go.Shelf

theorem encP_zero (n : Nat) : List.replicate n (I 0) = encP n fun _ => 0 := by
  refine List.ext_getElem (by simp [encP]) fun j h1 h2 => ?_
  simp [encP]
set_option maxRecDepth 100000 in
set_option maxHeartbeats 1000000 in
theorem lay_j (n H R : Nat) (h : 2 ≤ n ∧ n ≤ 6) (hH : H = n / 2) (hR : R ≤ 5) (oa : Option Addr) (oc : Nat) (rs : List (Nat × Nat)) (hrs : rs.length = R) (un : Int) (hun : 0 ≤ un ∧ un ≤ 100) (q : Nat → Nat → Nat) :
    Cx Try.prog 22 [I n, .slice oa R oc, I un] [grq (rs.map (·.1)) (rowM n q H)] (KSl oa R oc (encRw H) rs)
      (fun p : {p : Bool × (Nat → Nat → Nat) // (p.1 = true → ∀ r, r < R → GoodR H H (p.2 r)) ∧ (un = 100 → p.1 = true)} => .bool p.1.1)
      (fun p => [grq (rs.map (·.1)) (rowM n p.1.2 H)]) (fun _ => KTrue) := by
  have hH3 : H ≤ 3 := by omega
  have hhl := halls_j n h.2
  rw [← hH] at hhl
  refine Cx_of Try.func22 rfl Try.ntmps22 rfl fun w0 M0 => ?_
  refine JC_seq ?_
  refine JC_region ?_
  refine JL_step rfl rfl rfl (jo_box rfl rfl) fun b3 => ?_
  refine JL_step rfl rfl rfl (jo_box rfl rfl) fun b4 => ?_
  refine JL_step rfl rfl rfl (jo_box rfl rfl) fun b5 => ?_
  refine JL_pd rfl (det_assign rfl) ?_
  refine JL_nil ?_
  refine JE_seq ?_
  refine JC_seq ?_
  refine JC_region ?_
  refine JL_step rfl rfl rfl (jo_alloc0 (cs := encP 18 fun _ => 0) Try.zeroValue109 rfl) fun b7 => ?_
  refine JL_nil ?_
  refine JE_seq ?_
  refine JC_seq ?_
  refine JC_region ?_
  refine JL_step rfl rfl rfl (jo_alloc0 Try.zeroValue110 rfl) fun b8 => ?_
  refine JL_nil ?_
  refine JE_seq ?_
  refine JC_seq ?_
  refine JC_region ?_
  refine JL_pd rfl (det_makeFuncE rfl rfl) ?_
  refine JL_step0 rfl rfl (jo_store rfl rfl rfl (by first | (simp only [splice_norm]; done) | (simp only [splice_norm]; rfl) | rfl) Try.sizeOf110 rfl rfl) fun _ => ?_
  refine JL_nil ?_
  refine JE_seq ?_
  refine JC_seq ?_
  refine JC_draw [4] (by kernel_rfl) ?_
  refine JA_dt (i := 0) rfl (by kernel_rfl) (by kernel_rfl) rfl rfl (det_loadK rfl Try.isAgg110 rfl) ?_
  refine JA_dt (i := 1) rfl (by kernel_rfl) (by kernel_rfl) rfl rfl (det_loadK rfl Try.isAgg3 rfl) ?_
  refine JA_one (i := 2) (by kernel_rfl) rfl rfl (jo_callv rfl rfl Try.call56 rfl (hhl)) (fun _ => ⟨hsub_refl, fun _ h => h⟩) fun _ => ?_
  refine JA_one (i := 3) (by kernel_rfl) rfl rfl (jo_makeBox (zv := .bool false) (z := 1) (bytes := 1) (n := H) (encT H fun _ => false) (by rw [← encT_false, Nat.mul_one]; exact made_rep _ _ _ rfl) rfl rfl rfl Try.underlying111 (by kernel_rfl) (by omega) (by omega)) (fun _ => ⟨hsub_drop 1 rfl, fun _ h => h⟩) fun b13 => ?_
  -- stop: op  4 t14 := (call (Call (value t10) (0 0 t13) (3 3 111)))   <0 3 2>   138
  have hIH := fun lb ub nb unb gb tb2 => give_j n H R h hH hR oa oc rs hrs un hun lb ub nb unb gb (4 * (R - 0) + (H - 0)) 0 0 q (fun _ => 0) (fun _ => false) tb2 (Nat.le_refl _) (Nat.zero_le _) (Nat.zero_le _) (fun _ => rfl) ⟨fun r hr => absurd hr (Nat.not_lt_zero r), fun i hi => absurd hi (Nat.not_lt_zero i)⟩ (Tk.zero _ _) (fun _ _ => ⟨Int.le_refl _, by show (0 : Int) ≤ 2 * ((0 * H + 0 : Nat) : Int); omega⟩)
  refine JA_tail (i := 4) (by kernel_rfl) rfl rfl rfl rfl (jo_callx rfl rfl Try.call53 rfl (hIH b4 b7 b3 b5 b8 b13) (ht7)) fun w4 => ?_
  refine JT_pd (i := 5) rfl (by kernel_rfl) rfl rfl (det_assign rfl) ?_
  refine JT_done (by kernel_rfl) ?_
  refine JE_seq ?_
  refine JC_ret ?_
  -- stop: out
  refine JE_out (.inl rfl) ⟨(w4.1.1, w4.1.2.1), w4.2.good, w4.2.must⟩ (results1 Try.results22 (res_tmp rfl)) rfl pick_perm (fun _ _ => trivial)
set_option maxRecDepth 100000 in
set_option maxHeartbeats 1000000 in
theorem Build_j (n H R : Nat) (h : 2 ≤ n ∧ n ≤ 6) (hH : H = n / 2) (hR : R = n - 1 + n % 2) : Cx Try.prog 5 [I n] [] KTrue
      (fun q : Option Addr × Nat × {rs : List (Nat × Nat) // rs.length = R} × {q : Nat → Nat → Nat // ∀ r, r < R → GoodR H H (q r)} => .tuple #[.slice q.1 R q.2.1, I 0])
      (fun q => [grq (q.2.2.1.1.map (·.1)) (rowM n q.2.2.2.1 H)]) (fun q => KSl q.1 R q.2.1 (encRw H) q.2.2.1.1) := by
  have hte := teams_j n
  rw [show inI (n : Int) 2 6 = true from inI_iff.2 ⟨by omega, by omega⟩] at hte
  have hro := rounds_j n h
  rw [← hH, ← hR] at hro
  refine Cx_of Try.func5 rfl Try.ntmps5 rfl fun w0 M0 => ?_
  refine JC_seq ?_
  refine JC_region ?_
  refine JL_pd rfl (det_assign rfl) ?_
  refine JL_pd rfl (det_assign rfl) ?_
  refine JL_nil ?_
  refine JE_seq ?_
  refine JC_seq ?_
  refine JC_seq ?_
  refine JC_region ?_
  refine JL_pd rfl (det_move rfl) ?_
  refine JL_step rfl rfl rfl (jo_callv rfl rfl Try.call20 rfl (hte)) fun _ => ?_
  refine JL_pd rfl (det_not rfl) ?_
  refine JL_nil ?_
  refine JE_seq ?_
  -- stop: cond
  refine JC_cond rfl (fun h1 => ?_) (fun h1 => ?_)
  · cases h1
  refine JC_skip ?_
  refine JE_seq ?_
  refine JC_seq ?_
  refine JC_region ?_
  refine JL_pd rfl (det_move rfl) ?_
  refine JL_step rfl rfl rfl (jo_call rfl rfl Try.call21 rfl (hro)) fun x10 => ?_
  refine JL_pd rfl (det_assign rfl) ?_
  refine JL_nil ?_
  refine JE_seq ?_
  refine JC_seq ?_
  refine JC_seq ?_
  refine JC_region ?_
  refine JL_pd rfl (det_assign rfl) ?_
  refine JL_nil ?_
  refine JE_seq ?_
  refine JC_block ?_
  -- stop: loop
  obtain ⟨oa, oc, rs, hrs⟩ := x10
  refine JC_loopF (γ := Nat × (Nat → Nat → Nat)) (fun q => q.1 ≤ 100) (fun q => [(5, I q.1)]) (fun q => [grq (rs.map (·.1)) (rowM n q.2 H)]) (fun q => 100 - q.1) (0, fun _ _ => 0) (Nat.zero_le _) (stsub_consI rfl rfl stsub_nil) (ht_cons ht_nil) ?_
  rintro ⟨i, q⟩ hi K hK
  dsimp only [List.cons_append, List.nil_append] at hi ⊢
  have hla := lay_j n H R h hH (by omega) oa oc rs hrs (i : Int) ⟨by omega, by omega⟩ q
  refine JC_seq ?_
  refine JC_seq ?_
  refine JC_region ?_
  refine JL_pd rfl (det_move rfl) ?_
  refine JL_pd rfl (det_move rfl) ?_
  refine JL_pd rfl (det_move rfl) ?_
  refine JL_step rfl rfl rfl (jo_callx rfl rfl Try.call22 rfl (hla) (pick_perm)) fun x14 => ?_
  refine JL_pd rfl (det_not rfl) ?_
  refine JL_nil ?_
  refine JE_seq ?_
  -- stop: cond
  refine JC_cond rfl (fun h2 => ?_) (fun h2 => ?_)
  · have h3 : x14.1.1 = false := by simpa using h2
    have h4 : i ≠ 100 := fun e => by
      have := x14.2.2 (by omega)
      rw [h3] at this; cases this
    refine JC_skip ?_
    refine JE_seq ?_
    refine JC_seq ?_
    refine JC_block ?_
    refine JC_skip ?_
    refine JE_block ?_
    refine JE_seq ?_
    refine JC_region ?_
    refine JL_pd rfl (det_move rfl) ?_
    refine JL_pd rfl (det_add rfl rfl ⟨by omega, by omega⟩) ?_
    refine JL_pd rfl (det_assign rfl) ?_
    refine JL_nil ?_
    -- stop: end
    refine JE_roundF hK (i + 1, x14.1.2) (by simp only; omega) (by simp only; omega) (stsub_consI rfl (by simp only; omega) stsub_nil) (ht_cons ht_nil)
  · have h3 : x14.1.1 = true := by simpa using h2
    refine JC_exit ?_
    refine JE_seq_exit ?_
    refine JE_then_exit ?_
    refine JE_block_here ?_
    refine JE_seq ?_
    refine JC_seq ?_
    refine JC_region ?_
    refine JL_pd rfl (det_move rfl) ?_
    refine JL_pd rfl (det_assign rfl) ?_
    refine JL_pd rfl (det_assign rfl) ?_
    refine JL_nil ?_
    refine JE_seq ?_
    refine JC_ret ?_
    -- stop: out
    refine JE_out (.inl rfl) (oa, oc, ⟨rs, hrs⟩, ⟨x14.1.2, x14.2.1 h3⟩) (results2 Try.results5 (res_tmp rfl) (res_tmp rfl)) rfl pick_perm (fun w h => Knows.know w h)
end Go.Proofs.Ythpkgabckklojaa.Bl
