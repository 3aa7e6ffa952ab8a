/- Own texts, laid together: W2 PathM W3 W4 W5 W6 W7 W8 W9. Nothing is asked. -/
import Derived.Test.YthpkgabckklojaaGreatSA
import Derived.Test.YthpkgabckklojaaGreatS2
set_option linter.unusedSimpArgs false
set_option linter.unusedVariables false
/- Walks of package path: follow, pockets, aimers, can. -/
namespace Go.Proofs.YthpkgabckklojaaGreat
open Go.RowKit Go.Shelf

/-- How the lists of a lane lie. -/
abbrev KLane (l : La) (ha : Option Addr) (hc : Nat) (pa : Option Addr) (pc : Nat) : World → Prop := KAnd (KSl ha l.hooks.length hc encRg l.hooks) (KSl pa l.patches.length pc encPa l.patches)
/-- How a ball lies. -/
def KBall (l : La) (ha : Option Addr) (hc : Nat) (pa : Option Addr) (pc g : Nat) : World → Prop := fun w => BallAt w l ha hc pa pc g
theorem KLane.at_ {l : La} {ha pa : Option Addr} {hc pc : Nat} {w : World} (h : KLane l ha hc pa pc w) : LaneAt w l ha hc pa pc := ⟨h.1.1, h.2.1⟩
theorem at_KLane {l : La} {ha pa : Option Addr} {hc pc : Nat} {w : World} (h : LaneAt w l ha hc pa pc) : KLane l ha hc pa pc w := ⟨⟨h.1, rfl⟩, ⟨h.2, rfl⟩⟩

theorem CheckLane_j (l : La) (ha pa : Option Addr) (hc pc : Nat) : Cv Tryz.prog 97 [.agg #[I l.boards, I l.rows, .slice ha l.hooks.length hc, .slice pa l.patches.length pc]] (KLane l ha hc pa pc) (I (fault l)) :=
  Cv_of fun w h => CheckLane_any l ha pa hc pc w h.at_
theorem ball_j (l : La) (ha pa : Option Addr) (hc pc : Nat) (V : Valid l) : Cr Tryz.prog 98 [.agg #[I l.boards, I l.rows, .slice ha l.hooks.length hc, .slice pa l.patches.length pc]] (KLane l ha hc pa pc) (fun g : Nat => .agg #[I l.boards, I l.rows, .slice ha l.hooks.length hc, .slice pa l.patches.length pc, .slice (some ⟨g, 0, none⟩) l.rows.toNat l.rows.toNat]) (fun g => KBall l ha hc pa pc g) :=
  Cr_of fun w h => (balls_any l ha pa hc pc w h.at_ V).mono fun e w' ⟨g, he, hg, hB, hb⟩ => ⟨g, he, hb, fun w2 h2 hz hn => by
    obtain ⟨h1, h3, cs, ⟨T, hx⟩, h4⟩ := hB
    exact ⟨h2.at_, h3, cs, ⟨T, (hn g hg (Array.getElem?_eq_some_iff.1 hx).1).trans hx⟩, h4⟩⟩
theorem hooks_j (l : La) (row : Int) (s : St) (ha pa : Option Addr) (hc pc g : Nat) (h1 : 0 ≤ row) (h2 : row < l.rows) (h3 : onL l s = true) :
    Cv Tryz.prog 45 [.agg #[I l.boards, I l.rows, .slice ha l.hooks.length hc, .slice pa l.patches.length pc, .slice (some ⟨g, 0, none⟩) l.rows.toNat l.rows.toNat], I row, .agg #[I s.b, I s.d]] (KBall l ha hc pa pc g) (.agg #[I (hookOf l row s.b).lo, I (hookOf l row s.b).hi]) :=
  Cv_of fun w h => hooks_any l row s ha pa hc pc g w h h1 h2 h3
theorem next_j (s : St) (t : Int) (h1 : -5 ≤ s.d) (h2 : s.d ≤ 5) (h3 : -3 ≤ t) (h4 : t ≤ 3) (h5 : -1000 ≤ s.b) (h6 : s.b ≤ 1000) : Cv Tryz.prog 47 [.agg #[I s.b, I s.d], I t] KTrue (.agg #[I (nextS s t).b, I (nextS s t).d]) :=
  Cv_of fun w _ => next_any s t w h1 h2 h3 h4 h5 h6

/-- follow: the iterator, over two boxes of its own. -/
theorem follow_j (l : La) (row : Int) (s : St) (ha pa : Option Addr) (hc pc g : Nat) (h1 : 0 ≤ row) (h2 : row < l.rows) (h3 : onL l s = true) :
    Cx Tryz.prog 101 [.agg #[I l.boards, I l.rows, .slice ha l.hooks.length hc, .slice pa l.patches.length pc, .slice (some ⟨g, 0, none⟩) l.rows.toNat l.rows.toNat], I row, .agg #[I s.b, I s.d]] [] (KBall l ha hc pa pc g) (fun p : Nat × Nat => .func (.func 143) #[] #[.pointer (some ⟨p.1, 0, none⟩), .pointer (some ⟨p.2, 0, none⟩)])
      (fun p => [bx p.1 [I (hookOf l row s.b).lo, I (hookOf l row s.b).hi], bx p.2 [I s.b, I s.d]]) (fun _ => KTrue) := by
  refine Cx_of Tryz.func101 rfl Tryz.ntmps101 rfl fun w0 M0 => ?_
  refine JC_seq ?_
  refine JC_region ?_
  refine JL_step rfl rfl rfl (jo_box rfl rfl) fun b3 => ?_
  refine JL_step rfl rfl rfl (jo_box rfl rfl) fun b5 => ?_
  refine JL_pd rfl (det_assign rfl) ?_
  refine JL_nil ?_
  refine JE_seq ?_
  refine JC_seq ?_
  refine JC_region ?_
  refine JL_dt rfl (det_loadKA rfl Tryz.isAgg115 Tryz.sizeOf115 rfl rfl) ?_
  refine JL_pd rfl (det_move rfl) ?_
  refine JL_dt rfl (det_loadKA rfl Tryz.isAgg49 Tryz.sizeOf49 rfl rfl) ?_
  -- stop: op  3 t11 := (call (Call (value f45) (t8 t9 t10) (115 3 49)))   <0 1 2>   114
  refine JL_step rfl rfl rfl (jo_callv rfl rfl Tryz.call45 rfl (hooks_j l row s ha pa hc pc g h1 h2 h3)) fun _ => ?_
  refine JL_step rfl rfl rfl (jo_alloc0 Tryz.zeroValue112 rfl) fun b7 => ?_
  refine JL_step0 rfl rfl (jo_store rfl rfl rfl (by first | (simp only [splice_norm]; done) | (simp only [splice_norm]; rfl) | rfl) Tryz.sizeOf112 rfl rfl) fun _ => ?_
  refine JL_nil ?_
  refine JE_seq ?_
  refine JC_seq ?_
  refine JC_region ?_
  refine JL_pd rfl (det_makeFuncE rfl rfl) ?_
  refine JL_pd rfl (det_assign rfl) ?_
  refine JL_nil ?_
  refine JE_seq ?_
  refine JC_ret ?_
  -- stop: out
  refine JE_out (.inl rfl) (b7, b5) (results1 Tryz.results101 (res_tmp rfl)) rfl (List.Perm.refl _) (fun _ _ => trivial)

/-- An aimer's cells. -/
abbrev aimCs (l : La) (p : Pk) (ha : Option Addr) (hc : Nat) (pa : Option Addr) (pc g F mb : Nat) : List Value := [I l.boards, I l.rows, .slice ha l.hooks.length hc, .slice pa l.patches.length pc, .slice (some ⟨g, 0, none⟩) l.rows.toNat l.rows.toNat, I p.boards.lo, I p.boards.hi, I p.dirs.lo, I p.dirs.hi, .func (.func F) #[] #[], .map (some mb)]
/-- Whether a ball has a truth with an end: n rows before the last one. -/
def canN (l : La) (en : Bool → St → Bool) : Nat → Int → St → Bool
  | 0, _, s => en (onL l s) s
  | n + 1, row, s => if onL l s = true then (stepsOf l row s).any (canN l en n (row + 1)) else en false s
/-- What an aimer remembers is so. -/
def GoodM (l : La) (en : Bool → St → Bool) (m : Int × St → Option Bool) : Prop := ∀ k v, m k = some v → v = canN l en (l.rows - 1 - k.1).toNat k.1 k.2
abbrev Memo (l : La) (en : Bool → St → Bool) := { m : Int × St → Option Bool // GoodM l en m }
abbrev encTl {hk : Rg} {s : St} (x : Turned hk s) : List Value := [I x.1.1, .agg #[I x.1.2.b, I x.1.2.d]]

theorem GoodM.upd {l : La} {en : Bool → St → Bool} {m : Int × St → Option Bool} (h : GoodM l en m) {row : Int} {s : St} {v : Bool} (hv : v = canN l en (l.rows - 1 - row).toNat row s) : GoodM l en (Go.Proofs.YthpkgabckklojaaGreat.upd m (row, s) v) := by
  intro k u hu
  by_cases e : k = (row, s)
  · subst e; simp [Go.Proofs.YthpkgabckklojaaGreat.upd] at hu; rw [← hu, hv]
  · simp [Go.Proofs.YthpkgabckklojaaGreat.upd, e] at hu; exact h k u hu
end Go.Proofs.YthpkgabckklojaaGreat

/- The walks of package path: aimers. -/
namespace Go.Proofs.YthpkgabckklojaaGreat
open Go.RowKit Go.Shelf Go.Proofs

end Go.Proofs.YthpkgabckklojaaGreat

/- Walks of package path: aimed, aimers, Hits, Aims. -/
namespace Go.Proofs.YthpkgabckklojaaGreat
open Go.RowKit Go.Shelf

abbrev ballNil : Value := .agg #[I 0, I 0, .slice none 0 0, .slice none 0 0, .slice none 0 0]
theorem started_je (l : La) (s : St) (ha pa : Option Addr) (hc pc : Nat) (he : startErr l s ≠ 0) : Cv Tryz.prog 44 [.agg #[I l.boards, I l.rows, .slice ha l.hooks.length hc, .slice pa l.patches.length pc], .agg #[I s.b, I s.d]] (KLane l ha hc pa pc) (.tuple #[ballNil, I (startErr l s)]) :=
  Cv_of fun w h => started_err l s ha pa hc pc w h.at_ he
theorem started_jo (l : La) (s : St) (ha pa : Option Addr) (hc pc : Nat) (he : startErr l s = 0) : Cr Tryz.prog 44 [.agg #[I l.boards, I l.rows, .slice ha l.hooks.length hc, .slice pa l.patches.length pc], .agg #[I s.b, I s.d]] (KLane l ha hc pa pc) (fun g : Nat => .tuple #[.agg #[I l.boards, I l.rows, .slice ha l.hooks.length hc, .slice pa l.patches.length pc, .slice (some ⟨g, 0, none⟩) l.rows.toNat l.rows.toNat], I 0]) (fun g => KBall l ha hc pa pc g) :=
  Cr_of fun w h => (started_ok l s ha pa hc pc w h.at_ he).mono fun e w' ⟨g, he, hg, hB, hb⟩ => ⟨g, he, hb, fun w2 h2 hz hn => by
    obtain ⟨h1, h3, cs, ⟨T, hx⟩, h4⟩ := hB
    exact ⟨h2.at_, h3, cs, ⟨T, (hn g hg (Array.getElem?_eq_some_iff.1 hx).1).trans hx⟩, h4⟩⟩
/-- The error of a lane with a start and a pocket. -/
def aimErr (l : La) (s : St) (p : Pk) : Int := if startErr l s ≠ 0 then startErr l s else if isPocket p then 0 else 2
end Go.Proofs.YthpkgabckklojaaGreat

/- Walks of package path: Hits, Aims. -/
namespace Go.Proofs.YthpkgabckklojaaGreat
open Go.RowKit Go.Shelf

def enM (p : Pk) (b : Bool) (s : St) : Bool := !hitsP p b s
def nR (l : La) : Nat := (l.rows - 1).toNat
/-- Whether a ball hits a pocket: never, in some truth, in all. -/
def hitsV (l : La) (s : St) (p : Pk) : Int := if canN l (enM p) (nR l) 0 s then (if canN l (hitsP p) (nR l) 0 s then 1 else 0) else 2
def noMemo (l : La) (en : Bool → St → Bool) : Memo l en := ⟨fun _ => none, fun _ _ h => by cases h⟩
theorem aim_ok {l : La} {s : St} {p : Pk} (h : aimErr l s p = 0) : startErr l s = 0 ∧ isPocket p = true := by
  unfold aimErr at h
  split at h
  · contradiction
  · refine ⟨by simp_all, ?_⟩
    cases hp : isPocket p
    · simp [hp] at h
    · rfl
end Go.Proofs.YthpkgabckklojaaGreat

/- Walks of package path: Aims. -/
namespace Go.Proofs.YthpkgabckklojaaGreat
open Go.RowKit Go.Shelf

/-- All starts of the first boards, so many, and of the next board, up to a direction. -/
def doneS (i j : Nat) : List St := (List.range i).flatMap (fun a : Nat => (List.range 11).map fun b : Nat => (⟨1 + a, -5 + b⟩ : St)) ++ (List.range j).map fun b : Nat => (⟨1 + i, -5 + b⟩ : St)
theorem doneS_dir (i j : Nat) : doneS i (j + 1) = doneS i j ++ [⟨1 + i, -5 + j⟩] := by
  simp [doneS, List.range_succ]
theorem doneS_row (i : Nat) : doneS i 11 = doneS (i + 1) 0 := by
  simp [doneS, List.range_succ (n := i), List.flatMap_append]
theorem doneS_len (i j : Nat) : (doneS i j).length = i * 11 + j := by
  have : ∀ i : Nat, ((List.range i).flatMap (fun a : Nat => (List.range 11).map fun b : Nat => (⟨1 + a, -5 + b⟩ : St))).length = i * 11 := by
    intro i
    induction i with
    | zero => rfl
    | succ i ih => rw [List.range_succ (n := i), List.flatMap_append, List.length_append, ih]; simp; omega
  simp [doneS, this]
/-- It surely hits. -/
def sureS (l : La) (p : Pk) (s : St) : Bool := !canN l (enM p) (nR l) 0 s
def aimsL (l : La) (p : Pk) : List St := (doneS l.boards.toNat 0).filter (sureS l p)
/-- The error of a lane with a pocket. -/
def aimsErr (l : La) (p : Pk) : Int := if fault l ≠ 0 then fault l else if isPocket p then 0 else 2

end Go.Proofs.YthpkgabckklojaaGreat

/- Walks of package path: Best. -/
namespace Go.Proofs.YthpkgabckklojaaGreat
open Go.RowKit Go.Shelf

/-- Both states, so far to the sides, are in a list. -/
def pairOk (A : List St) (s : St) (n : Nat) : Bool := decide ((⟨s.b - n, s.d⟩ : St) ∈ A) && decide ((⟨s.b + n, s.d⟩ : St) ∈ A)
def runUp (p : Nat → Bool) : Nat → Nat → Nat
  | 0, m => m
  | f + 1, m => if p m = true then runUp p f (m + 1) else m
/-- How many distances, from 0 on, are so. -/
def roomN (A : List St) (s : St) : Nat := runUp (pairOk A s) 60 0
theorem runUp_spec (p : Nat → Bool) : ∀ f m, m ≤ runUp p f m ∧ (∀ j, m ≤ j → j < runUp p f m → p j = true) ∧ (runUp p f m < m + f → p (runUp p f m) = false) ∧ runUp p f m ≤ m + f
  | 0, m => ⟨by simp [runUp], by intro j h1 h2; simp [runUp] at h2; omega, by simp [runUp], by simp [runUp]⟩
  | f + 1, m => by
    unfold runUp
    by_cases h : p m = true
    · rw [if_pos h]
      obtain ⟨h1, h2, h3, h4⟩ := runUp_spec p f (m + 1)
      refine ⟨by omega, fun j hj1 hj2 => ?_, fun hlt => h3 (by omega), by omega⟩
      by_cases e : j = m
      · subst e; exact h
      · exact h2 j (by omega) hj2
    · rw [if_neg h]
      exact ⟨by omega, by intro j h1 h2; omega, fun _ => by simpa using h, by omega⟩
theorem roomN_eq {A : List St} {s : St} {k : Nat} (h1 : ∀ m, m < k → pairOk A s m = true) (h2 : pairOk A s k = false) (hk : k < 60) : roomN A s = k := by
  obtain ⟨a, b, c, d⟩ := runUp_spec (pairOk A s) 60 0
  unfold roomN
  rcases Nat.lt_trichotomy (runUp (pairOk A s) 60 0) k with h | h | h
  · have := c (by omega); rw [h1 _ h] at this; cases this
  · exact h
  · have := b k (by omega) h; rw [h2] at this; cases this
theorem roomN_ge {A : List St} {s : St} {k : Nat} (h1 : ∀ m, m < k → pairOk A s m = true) (hk : k ≤ 60) : k ≤ roomN A s := by
  obtain ⟨a, b, c, d⟩ := runUp_spec (pairOk A s) 60 0
  unfold roomN
  rcases Nat.lt_or_ge (runUp (pairOk A s) 60 0) k with h | h
  · have := c (by omega); rw [h1 _ h] at this; cases this
  · exact h
theorem roomN_lt {A : List St} {s : St} {k : Nat} (h2 : pairOk A s k = false) : roomN A s ≤ k := by
  obtain ⟨a, b, c, d⟩ := runUp_spec (pairOk A s) 60 0
  unfold roomN
  rcases Nat.lt_or_ge k (runUp (pairOk A s) 60 0) with h | h
  · have := b k (by omega) h; rw [h2] at this; cases this
  · exact h
def bestS (A : List St) (q : St × Int) (s : St) : St × Int := if q.2 < (roomN A s : Int) - 1 then (s, (roomN A s : Int) - 1) else q
/-- The first start of the greatest room, and its room; -1 where there is none. -/
def bestF (A : List St) : St × Int := A.foldl (bestS A) (⟨0, 0⟩, -1)
/-- A list as a set. -/
def setL (A : List St) : St → Option Bool := fun s => if s ∈ A then some true else none
theorem setL_get (A : List St) (s : St) : (setL A s).getD false = decide (s ∈ A) := by
  unfold setL; by_cases h : s ∈ A <;> simp [h]
theorem setL_upd (A : List St) (s : St) : upd (setL A) s true = setL (A ++ [s]) := by
  funext t; unfold upd setL; by_cases h : t = s <;> simp [h]
theorem mem_doneS {i j : Nat} {s : St} (h : s ∈ doneS i j) (hj : j = 0) : 1 ≤ s.b ∧ s.b ≤ i ∧ -5 ≤ s.d ∧ s.d ≤ 5 := by
  subst hj
  simp only [doneS, List.range_zero, List.map_nil, List.append_nil, List.mem_flatMap, List.mem_map, List.mem_range] at h
  obtain ⟨a, ha, b, hb, rfl⟩ := h
  simp only
  omega
theorem aims_bd {l : La} {p : Pk} {s : St} (h : s ∈ aimsL l p) (hb : l.boards ≤ 40) : 1 ≤ s.b ∧ s.b ≤ 40 ∧ -5 ≤ s.d ∧ s.d ≤ 5 := by
  have := mem_doneS (List.mem_filter.1 h).1 rfl
  omega
theorem pairOk_bd {l : La} {p : Pk} {s : St} {n : Nat} (hb : l.boards ≤ 40) (h : pairOk (aimsL l p) s n = true) (hs : 1 ≤ s.b) : n ≤ 40 := by
  simp only [pairOk, Bool.and_eq_true, decide_eq_true_eq] at h
  have := aims_bd h.2 hb
  simp only at this
  omega
theorem aims_len (l : La) (p : Pk) (hb : l.boards ≤ 40) : (aimsL l p).length ≤ 500 := by
  have := List.length_filter_le (sureS l p) (doneS l.boards.toNat 0)
  rw [doneS_len] at this
  unfold aimsL; omega

end Go.Proofs.YthpkgabckklojaaGreat

/- Walks of package path: Turn. -/
namespace Go.Proofs.YthpkgabckklojaaGreat
open Go.RowKit Go.Shelf

theorem least_jx (x y : Int) (b : Nat) : Cx Tryz.prog 100 [.slice (some ⟨b, 0, none⟩) 2 2] [bx b [I x, I y]] KTrue (fun _ : Unit => I (min x y)) (fun _ => [bx b [I x, I y]]) (fun _ => KTrue) :=
  Cx_same fun w h => by
    have hb : Box w b [I x, I y] := (h (bx b [I x, I y]) (by simp)).now
    exact least_two x y b w (hb.cell 0 rfl) (hb.cell 1 rfl)
theorem greatest_jx (x y : Int) (b : Nat) : Cx Tryz.prog 99 [.slice (some ⟨b, 0, none⟩) 2 2] [bx b [I x, I y]] KTrue (fun _ : Unit => I (max x y)) (fun _ => [bx b [I x, I y]]) (fun _ => KTrue) :=
  Cx_same fun w h => by
    have hb : Box w b [I x, I y] := (h (bx b [I x, I y]) (by simp)).now
    exact greatest_two x y b w (hb.cell 0 rfl) (hb.cell 1 rfl)

def widen (o r : Rg) : Rg := ⟨min o.lo r.lo, max o.hi r.hi⟩
/-- The range of the greatest boards from a state on: n rows before the last one. -/
def turnN (l : La) : Nat → Int → St → Rg
  | 0, _, s => if onL l s = true then ⟨s.b, s.b⟩ else ⟨0, 0⟩
  | n + 1, row, s => if onL l s = true then
      let o := ((stepsOf l row s).map (turnN l n (row + 1))).foldl widen ⟨40, 0⟩
      ⟨max o.lo s.b, max o.hi s.b⟩ else ⟨0, 0⟩
def GoodT (l : La) (m : Int × St → Option Rg) : Prop := ∀ k v, m k = some v → v = turnN l (l.rows - 1 - k.1).toNat k.1 k.2
abbrev MemoT (l : La) := { m : Int × St → Option Rg // GoodT l m }
abbrev vR : Rg → Value := fun r => .agg #[I r.lo, I r.hi]
theorem GoodT.upd {l : La} {m : Int × St → Option Rg} (h : GoodT l m) {row : Int} {s : St} {v : Rg} (hv : v = turnN l (l.rows - 1 - row).toNat row s) : GoodT l (Go.Proofs.YthpkgabckklojaaGreat.upd m (row, s) v) := by
  intro k u hu
  by_cases e : k = (row, s)
  · subst e; simp [Go.Proofs.YthpkgabckklojaaGreat.upd] at hu; rw [← hu, hv]
  · simp [Go.Proofs.YthpkgabckklojaaGreat.upd, e] at hu; exact h k u hu

end Go.Proofs.YthpkgabckklojaaGreat

/- Walks of package path: Turn, Play. -/
namespace Go.Proofs.YthpkgabckklojaaGreat
open Go.RowKit Go.Shelf

/-- The range of the turns of a ball. -/
def turnV (l : La) (s : St) : Rg := turnN l (nR l) 0 s
end Go.Proofs.YthpkgabckklojaaGreat

/- Walks of the reference and of the statements about path: small functions. -/
namespace Go.Proofs.YthpkgabckklojaaGreat
open Go.RowKit Go.Shelf

theorem rIn_j (n lo hi : Int) : Cv Tryz.prog 40 [I n, I lo, I hi] KTrue (.bool (decide (lo ≤ n ∧ n ≤ hi))) := by
  refine Cx_of Tryz.func40 rfl Tryz.ntmps40 rfl fun w0 M0 => ?_
  refine JC_seq ?_
  refine JC_region ?_
  refine JL_pd rfl (det_assign rfl) ?_
  refine JL_nil ?_
  refine JE_seq ?_
  refine JC_seq ?_
  refine JC_region ?_
  refine JL_pd rfl (det_move rfl) ?_
  refine JL_pd rfl (det_move rfl) ?_
  refine JL_pd rfl (det_geq rfl rfl) ?_
  refine JL_pd rfl (det_move rfl) ?_
  refine JL_split (d0 := 10) rfl (fun h1 => ?_) (fun h1 => ?_)
  · refine JL_guard rfl rfl h1 ?_
    refine JL_pd rfl (det_move rfl) ?_
    refine JL_guard rfl rfl h1 ?_
    refine JL_pd rfl (det_move rfl) ?_
    refine JL_guard rfl rfl h1 ?_
    refine JL_pd rfl (det_leq rfl rfl) ?_
    refine JL_pd rfl (det_pick_t rfl h1 rfl) ?_
    refine JL_pd rfl (det_assign rfl) ?_
    refine JL_nil ?_
    refine JE_seq ?_
    refine JC_ret ?_
    refine JE_out (.inl rfl) () (results1 Tryz.results40 (res_tmp rfl)) ?_ (List.Perm.refl _) (fun _ _ => trivial)
    (simp_all)
    (try omega)
  · refine JL_skip rfl rfl h1 rfl ?_
    refine JL_skip rfl rfl h1 rfl ?_
    refine JL_skip rfl rfl h1 rfl ?_
    refine JL_pd rfl (det_pick_f rfl h1 rfl) ?_
    refine JL_pd rfl (det_assign rfl) ?_
    refine JL_nil ?_
    refine JE_seq ?_
    refine JC_ret ?_
    refine JE_out (.inl rfl) () (results1 Tryz.results40 (res_tmp rfl)) ?_ (List.Perm.refl _) (fun _ _ => trivial)
    (simp_all)
    (try omega)
theorem rFault_j (l : La) (ha pa : Option Addr) (hc pc : Nat) : Cv Tryz.prog 6 [.agg #[I l.boards, I l.rows, .slice ha l.hooks.length hc, .slice pa l.patches.length pc]] (KLane l ha hc pa pc) (I (fault l)) :=
  Cv_of fun w h => Fault_any l ha pa hc pc w h.at_
theorem rIsStart_j (l : La) (ha pa : Option Addr) (hc pc : Nat) (s : St) : Cv Tryz.prog 7 [.agg #[I l.boards, I l.rows, .slice ha l.hooks.length hc, .slice pa l.patches.length pc], .agg #[I s.b, I s.d]] KTrue (.bool (isStart l s)) :=
  Cv_of fun w _ => IsStart_any l s ha pa hc pc w
theorem rNext_j (s : St) (t : Int) (h1 : -5 ≤ s.d) (h2 : s.d ≤ 5) (h3 : -3 ≤ t) (h4 : t ≤ 3) (h5 : -1000 ≤ s.b) (h6 : s.b ≤ 1000) : Cv Tryz.prog 52 [.agg #[I s.b, I s.d], I t] KTrue (.agg #[I (nextS s t).b, I (nextS s t).d]) :=
  Cv_of fun w _ => Next_any s t w h1 h2 h3 h4 h5 h6
theorem lTo_j (r : Rg) : Cv Tryz.prog 49 [.agg #[I r.lo, I r.hi]] KTrue (.agg #[I r.lo, I r.hi]) := by
  refine Cx_of Tryz.func49 rfl Tryz.ntmps49 rfl fun w0 M0 => ?_
  refine JC_seq ?_
  refine JC_region ?_
  refine JL_step rfl rfl rfl (jo_box rfl rfl) fun b1 => ?_
  refine JL_step rfl rfl rfl (jo_alloc0 Tryz.zeroValue112 rfl) fun b2 => ?_
  refine JL_nil ?_
  refine JE_seq ?_
  refine JC_seq ?_
  refine JC_region ?_
  refine JL_pd rfl (det_fieldAddr rfl fo_107_0) ?_
  refine JL_dt rfl (det_loadK rfl Tryz.isAgg3 rfl) ?_
  refine JL_pd rfl (det_fieldAddr rfl fo_107_1) ?_
  refine JL_dt rfl (det_loadK rfl Tryz.isAgg3 rfl) ?_
  refine JL_pd rfl (det_build rfl (bld_112_0_1 _ _)) ?_
  refine JL_step0 rfl rfl (jo_store rfl rfl rfl (by first | (simp only [splice_norm]; done) | (simp only [splice_norm]; rfl) | rfl) Tryz.sizeOf112 rfl rfl) fun _ => ?_
  refine JL_nil ?_
  refine JE_seq ?_
  refine JC_ret ?_
  refine JE_out (.inl rfl) () (results1 Tryz.results49 (res_box rfl Tryz.isAgg112 Tryz.sizeOf112 rfl)) ?_ (List.Perm.refl _) (fun _ _ => trivial)
  rfl
theorem lStart_j (s : St) : Cv Tryz.prog 14 [.agg #[I s.b, I s.d]] KTrue (.agg #[I s.b, I s.d]) := by
  refine Cx_of Tryz.func14 rfl Tryz.ntmps14 rfl fun w0 M0 => ?_
  refine JC_seq ?_
  refine JC_region ?_
  refine JL_step rfl rfl rfl (jo_box rfl rfl) fun b1 => ?_
  refine JL_step rfl rfl rfl (jo_alloc0 Tryz.zeroValue49 rfl) fun b2 => ?_
  refine JL_nil ?_
  refine JE_seq ?_
  refine JC_seq ?_
  refine JC_region ?_
  refine JL_pd rfl (det_fieldAddr rfl fo_27_0) ?_
  refine JL_dt rfl (det_loadK rfl Tryz.isAgg3 rfl) ?_
  refine JL_pd rfl (det_fieldAddr rfl fo_27_1) ?_
  refine JL_dt rfl (det_loadK rfl Tryz.isAgg3 rfl) ?_
  refine JL_pd rfl (det_build rfl (bld_49_0_1 _ _)) ?_
  refine JL_step0 rfl rfl (jo_store rfl rfl rfl (by first | (simp only [splice_norm]; done) | (simp only [splice_norm]; rfl) | rfl) Tryz.sizeOf49 rfl rfl) fun _ => ?_
  refine JL_nil ?_
  refine JE_seq ?_
  refine JC_ret ?_
  refine JE_out (.inl rfl) () (results1 Tryz.results14 (res_box rfl Tryz.isAgg49 Tryz.sizeOf49 rfl)) ?_ (List.Perm.refl _) (fun _ _ => trivial)
  rfl
def aimedP : Pk := ⟨⟨9, 15⟩, ⟨-3, -1⟩⟩
/-- At most 12 patches, 6 hooks. -/
def thin (l : La) : Bool := decide (l.patches.length ≤ 12 ∧ l.hooks.length ≤ 6)
theorem lThin_j (l : La) (ha pa : Option Addr) (hc pc : Nat) : Cv Tryz.prog 5 [.agg #[I l.boards, I l.rows, .slice ha l.hooks.length hc, .slice pa l.patches.length pc]] KTrue (.bool (thin l)) := by
  refine Cx_of Tryz.func5 rfl Tryz.ntmps5 rfl fun w0 M0 => ?_
  refine JC_seq ?_
  refine JC_region ?_
  refine JL_step rfl rfl rfl (jo_box rfl rfl) fun b1 => ?_
  refine JL_pd rfl (det_assign rfl) ?_
  refine JL_nil ?_
  refine JE_seq ?_
  refine JC_seq ?_
  refine JC_region ?_
  refine JL_pd rfl (det_fieldAddr rfl fo_25_3) ?_
  refine JL_dt rfl (det_loadK rfl Tryz.isAgg23 rfl) ?_
  refine JL_pd rfl (det_len rfl Tryz.runUnderlying23) ?_
  refine JL_pd rfl (det_leq rfl rfl) ?_
  refine JL_pd rfl (det_move rfl) ?_
  refine JL_split (d0 := 7) rfl (fun h1 => ?_) (fun h1 => ?_)
  · refine JL_guard rfl rfl h1 ?_
    refine JL_pd rfl (det_fieldAddr rfl fo_25_2) ?_
    refine JL_guard rfl rfl h1 ?_
    refine JL_dt rfl (det_loadK rfl Tryz.isAgg22 rfl) ?_
    refine JL_guard rfl rfl h1 ?_
    refine JL_pd rfl (det_len rfl Tryz.runUnderlying22) ?_
    refine JL_guard rfl rfl h1 ?_
    refine JL_pd rfl (det_leq rfl rfl) ?_
    refine JL_pd rfl (det_pick_t rfl h1 rfl) ?_
    refine JL_pd rfl (det_assign rfl) ?_
    refine JL_nil ?_
    refine JE_seq ?_
    refine JC_ret ?_
    refine JE_out (.inl rfl) () (results1 Tryz.results5 (res_tmp rfl)) ?_ (List.Perm.refl _) (fun _ _ => trivial)
    (simp_all [thin])
    (try (rw [Bool.eq_iff_iff]; simp))
    (try omega)
  · refine JL_skip rfl rfl h1 rfl ?_
    refine JL_skip rfl rfl h1 rfl ?_
    refine JL_skip rfl rfl h1 rfl ?_
    refine JL_skip rfl rfl h1 rfl ?_
    refine JL_pd rfl (det_pick_f rfl h1 rfl) ?_
    refine JL_pd rfl (det_assign rfl) ?_
    refine JL_nil ?_
    refine JE_seq ?_
    refine JC_ret ?_
    refine JE_out (.inl rfl) () (results1 Tryz.results5 (res_tmp rfl)) ?_ (List.Perm.refl _) (fun _ _ => trivial)
    (simp_all [thin])
    (try (rw [Bool.eq_iff_iff]; simp))
    (try omega)
end Go.Proofs.YthpkgabckklojaaGreat
