/- Path: the lane turned over (plain). -/
import Derived.Test.YtcfhbnfincpehaaX9
namespace Go.Proofs.Ytcfhbnfincpehaa

def mirR (r : Rg) : Rg := ⟨-r.hi, -r.lo⟩
def mirB (n : Int) (r : Rg) : Rg := ⟨n - r.hi, n - r.lo⟩
def mirP (n : Int) (p : Pa) : Pa := ⟨p.rows, mirB n p.boards, p.level⟩
/-- The lane turned over. -/
def mirL (l : La) : La := ⟨l.boards, l.rows, l.hooks.map mirR, l.patches.map (mirP (l.boards + 1))⟩
def mirS (l : La) (s : St) : St := ⟨l.boards + 1 - s.b, -s.d⟩
def mirK (l : La) (p : Pk) : Pk := ⟨mirB (l.boards + 1) p.boards, mirR p.dirs⟩
theorem mirS_b (l : La) (s : St) : (mirS l s).b = l.boards + 1 - s.b := rfl
theorem mirS_d (l : La) (s : St) : (mirS l s).d = -s.d := rfl
theorem mirL_b (l : La) : (mirL l).boards = l.boards := rfl
theorem mirB_lo (n : Int) (r : Rg) : (mirB n r).lo = n - r.hi := rfl
theorem mirB_hi (n : Int) (r : Rg) : (mirB n r).hi = n - r.lo := rfl
theorem mirR_lo (r : Rg) : (mirR r).lo = -r.hi := rfl
theorem mirR_hi (r : Rg) : (mirR r).hi = -r.lo := rfl
theorem mirP_b (n : Int) (p : Pa) : (mirP n p).boards = mirB n p.boards := rfl
theorem mirK_b (l : La) (p : Pk) : (mirK l p).boards = mirB (l.boards + 1) p.boards := rfl
theorem mirK_d (l : La) (p : Pk) : (mirK l p).dirs = mirR p.dirs := rfl
theorem mirS_mirS (l : La) (s : St) : mirS l (mirS l s) = s := by cases s; simp [mirS]; omega
theorem mir_valid {l : La} (V : Valid l) : Valid (mirL l) := by
  have h0 := V.h0
  refine ⟨by simpa [mirL] using V.np, by simpa [mirL] using V.nh, V.b1, V.b2, V.r1, V.r2, by simpa [mirL] using V.h0, ?_, ?_⟩
  · intro h hh
    simp only [mirL, List.mem_map] at hh
    obtain ⟨a, ha, rfl⟩ := hh
    have := V.hk a ha
    simp only [mirR]; omega
  · intro p hp
    simp only [mirL, List.mem_map] at hp
    obtain ⟨a, ha, rfl⟩ := hp
    have := V.pk a ha
    simp only [mirL, mirP, mirB, List.length_map]
    omega
theorem mir_on (l : La) (s : St) : onL (mirL l) (mirS l s) = onL l s := by
  exact decide_eq_decide.2 (by simp only [mirL_b, mirS_b]; omega)
theorem mir_start {l : La} {s : St} (h : isStart l s = true) : isStart (mirL l) (mirS l s) = true := by
  have h := of_decide_eq_true h
  exact decide_eq_true (by simp only [mirL_b, mirS_b, mirS_d]; omega)
theorem mir_level (l : La) (row b : Int) : ∀ ps : List Pa, levelOf (ps.map (mirP (l.boards + 1))) row (l.boards + 1 - b) = levelOf ps row b := by
  intro ps
  unfold levelOf
  rw [List.foldl_map]
  congr 1
  funext lv p
  have e : inR (l.boards + 1 - b) (mirP (l.boards + 1) p).boards = inR b p.boards := by
    exact decide_eq_decide.2 (by simp only [mirP_b, mirB_lo, mirB_hi]; omega)
  rw [e]; rfl
theorem mir_hook {l : La} (V : Valid l) (row b : Int) : hookOf (mirL l) row (l.boards + 1 - b) = mirR (hookOf l row b) := by
  have hb := levelOf_bd V row b
  unfold hookOf
  rw [show (mirL l).patches = l.patches.map (mirP (l.boards + 1)) from rfl, mir_level, show (mirL l).hooks = l.hooks.map mirR from rfl, List.getD_eq_getElem?_getD, List.getD_eq_getElem?_getD, List.getElem?_map]
  have hlt : (levelOf l.patches row b).toNat < l.hooks.length := by omega
  rw [List.getElem?_eq_getElem hlt]; rfl
theorem mir_clamp (n : Int) : clamp (-n) = -clamp n := by unfold clamp; omega
theorem mir_next (l : La) (s : St) (t : Int) : nextS (mirS l s) (-t) = mirS l (nextS s t) := by
  have e : -s.d + -t = -(s.d + t) := by omega
  simp only [nextS, mirS, e, mir_clamp]
  exact St.ext'.2 ⟨by simp only; omega, rfl⟩
theorem mem_steps {l : La} {k : Int} {s t : St} : t ∈ stepsOf l k s ↔ ∃ u, (hookOf l k s.b).lo ≤ u ∧ u ≤ (hookOf l k s.b).hi ∧ t = nextS s u := by
  simp only [stepsOf, List.mem_map, mem_turnsOf]
  exact ⟨fun ⟨u, h1, h2⟩ => ⟨u, h1.1, h1.2, h2.symm⟩, fun ⟨u, h1, h2, h3⟩ => ⟨u, ⟨h1, h2⟩, h3.symm⟩⟩
theorem mir_steps {l : La} (V : Valid l) (k : Int) (s t : St) : mirS l t ∈ stepsOf (mirL l) k (mirS l s) ↔ t ∈ stepsOf l k s := by
  rw [mem_steps, mem_steps, show (mirS l s).b = l.boards + 1 - s.b from rfl, mir_hook V]
  simp only [mirR]
  constructor
  · rintro ⟨u, h1, h2, h3⟩
    refine ⟨-u, by omega, by omega, ?_⟩
    have h := mir_next l s (-u)
    rw [Int.neg_neg] at h
    rw [h] at h3
    have := congrArg (mirS l) h3
    rwa [mirS_mirS, mirS_mirS] at this
  · rintro ⟨u, h1, h2, rfl⟩
    exact ⟨-u, by omega, by omega, (mir_next l s u).symm⟩
theorem mirS_inj {l : La} {s t : St} : mirS l s = mirS l t ↔ s = t := ⟨fun h => by have := congrArg (mirS l) h; rwa [mirS_mirS, mirS_mirS] at this, fun h => by rw [h]⟩
theorem mir_rch {l : La} (V : Valid l) (s : St) : ∀ (k : Nat) (t : St), Rch (mirL l) (mirS l s) k (mirS l t) ↔ Rch l s k t
  | 0, t => mirS_inj
  | k + 1, t => by
    simp only [Rch, mir_on]
    refine and_congr_right fun _ => ⟨fun ⟨u, h1, h2⟩ => ?_, fun ⟨u, h1, h2⟩ => ⟨mirS l u, (mir_rch V s k u).2 h1, (mir_steps V k u t).2 h2⟩⟩
    rw [← mirS_mirS l u] at h1 h2
    exact ⟨mirS l u, (mir_rch V s k _).1 h1, (mir_steps V k _ t).1 h2⟩
theorem mir_less (l : La) {x y : St} (h : lessS x y = true) : lessS (mirS l y) (mirS l x) = true := by
  have h := of_decide_eq_true h
  exact decide_eq_true (by simp only [mirS_b, mirS_d]; omega)
theorem mir_rowL {l : La} {s : St} (V : Valid l) (h0 : isStart l s = true) (k : Nat) : rowL (mirL l) (mirS l s) k = ((rowL l s k).map (mirS l)).reverse := by
  refine sorted_eq (rowL_sorted _ _ _) ?_ fun t => ?_
  · rw [List.pairwise_reverse, List.pairwise_map]
    exact (rowL_sorted l s k).imp fun {x y} h => mir_less l h
  · rw [mem_rowL (mir_valid V) (mir_start h0), List.mem_reverse, List.mem_map]
    constructor
    · intro h
      refine ⟨mirS l t, ?_, mirS_mirS l t⟩
      rw [mem_rowL V h0, ← mir_rch V, mirS_mirS]; exact h
    · rintro ⟨u, hu, rfl⟩
      exact (mir_rch V s k u).2 ((mem_rowL V h0).1 hu)
theorem mir_gut {l : La} {s : St} (V : Valid l) (h0 : isStart l s = true) (k : Nat) : gutB (mirL l) (mirS l s) k = gutB l s k := by
  rw [Bool.eq_iff_iff]
  simp only [gutB, mir_rowL V h0, List.any_eq_true, List.mem_reverse, List.mem_map]
  constructor
  · rintro ⟨_, ⟨u, hu, rfl⟩, t, ht, hon⟩
    rw [← mirS_mirS l t] at ht hon
    exact ⟨u, hu, mirS l t, (mir_steps V k u _).1 ht, by rwa [mir_on] at hon⟩
  · rintro ⟨u, hu, t, ht, hon⟩
    exact ⟨_, ⟨u, hu, rfl⟩, mirS l t, (mir_steps V k u t).2 ht, by rwa [mir_on]⟩
theorem mir_rowV {l : La} {s : St} (V : Valid l) (h0 : isStart l s = true) (k : Nat) : rowV (mirL l) (mirS l s) k = rowV l s k := by
  unfold rowV
  have e : gutB (mirL l) (mirS l s) = gutB l s := funext fun k => mir_gut V h0 k
  rw [e, mir_rowL V h0]
  simp
theorem mir_can {l : La} (V : Valid l) (en en' : Bool → St → Bool) (he : ∀ b s, en' b (mirS l s) = en b s) : ∀ (n : Nat) (row : Int) (s : St), canN (mirL l) en' n row (mirS l s) = canN l en n row s
  | 0, row, s => by simp only [canN, mir_on, he]
  | n + 1, row, s => by
    simp only [canN, mir_on, he]
    have e : (stepsOf (mirL l) row (mirS l s)).any (canN (mirL l) en' n (row + 1)) = (stepsOf l row s).any (canN l en n (row + 1)) := by
      rw [Bool.eq_iff_iff]
      simp only [List.any_eq_true]
      constructor
      · rintro ⟨t, ht, hc⟩
        rw [← mirS_mirS l t] at ht hc
        exact ⟨mirS l t, (mir_steps V row s _).1 ht, by rwa [mir_can V en en' he n] at hc⟩
      · rintro ⟨t, ht, hc⟩
        exact ⟨mirS l t, (mir_steps V row s t).2 ht, by rwa [mir_can V en en' he n]⟩
    rw [e]
theorem mir_hitsP (l : La) (p : Pk) (b : Bool) (s : St) : hitsP (mirK l p) b (mirS l s) = hitsP p b s := by
  have e1 : inR (mirS l s).b (mirK l p).boards = inR s.b p.boards := by exact decide_eq_decide.2 (by simp only [mirS_b, mirK_b, mirB_lo, mirB_hi]; omega)
  have e2 : inR (mirS l s).d (mirK l p).dirs = inR s.d p.dirs := by exact decide_eq_decide.2 (by simp only [mirS_d, mirK_d, mirR_lo, mirR_hi]; omega)
  simp only [hitsP, e1, e2]
theorem mir_hits {l : La} (V : Valid l) (s : St) (p : Pk) : hitsV (mirL l) (mirS l s) (mirK l p) = hitsV l s p := by
  have e1 := mir_can V (enM p) (enM (mirK l p)) (fun b s => by simp only [enM, mir_hitsP]) (nR l) 0 s
  have e2 := mir_can V (hitsP p) (hitsP (mirK l p)) (fun b s => mir_hitsP l p b s) (nR l) 0 s
  unfold hitsV
  rw [show nR (mirL l) = nR l from rfl, e1, e2]
end Go.Proofs.Ytcfhbnfincpehaa
