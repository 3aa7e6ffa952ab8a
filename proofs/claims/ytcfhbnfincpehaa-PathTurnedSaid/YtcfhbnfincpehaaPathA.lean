/- The walks of package path: ranges, lanes. -/
import Derived.Test.YtcfhbnfincpehaaRefA
namespace Go.Proofs.Ytcfhbnfincpehaa
open Go.RowKit Go.Shelf
attribute [local go_sem] lt_step le_step

theorem within_any (n lo hi : Int) (w : World) :
    Calls Try.prog 57 #[I n, I lo, I hi] w fun e w' => e = .returned (.bool (decide (lo ≤ n ∧ n ≤ hi))) ∧ w = w' := by
  go_enter Try.func57, Try.ntmps57
  go_wp2
  all_goals (go_ret; refine ⟨ret_bool ?_, rfl⟩; rw [Bool.eq_iff_iff]; simp <;> omega)

theorem inside_any (r : Rg) (lo hi : Int) (w : World) :
    Calls Try.prog 95 #[.agg #[I r.lo, I r.hi], I lo, I hi] w fun e w' => e = .returned (.bool (okRg r lo hi)) ∧ Below w.heap.size w w' := by
  go_enter Try.func95, Try.ntmps95
  go_wp2
  all_goals (go_ret; refine ⟨ret_bool ?_, by (repeat (first | assumption | exact Below.refl _ _ | refine Below.alloc ?_ (by first | omega | (simp only [World.size_alloc]; omega) | (simp; done)) _ | refine Below.trans ?_ (Below.mono (by assumption) (by first | omega | (simp only [World.size_alloc]; omega) | (simp; done)))))⟩; rw [Bool.eq_iff_iff]; simp [okRg] <;> omega)

theorem has_any (r : Rg) (n : Int) (w : World) :
    Calls Try.prog 81 #[.agg #[I r.lo, I r.hi], I n] w fun e w' => e = .returned (.bool (inR n r)) ∧ Below w.heap.size w w' := by
  go_enter Try.func81, Try.ntmps81
  go_wp2_with (go_at_call 57; refine Calls.mono (within_any _ _ _ _) ?_; rintro e w' ⟨rfl, rfl⟩)
  all_goals (go_ret; refine ⟨ret_bool ?_, by (repeat (first | assumption | exact Below.refl _ _ | refine Below.alloc ?_ (by first | omega | (simp only [World.size_alloc]; omega) | (simp; done)) _ | refine Below.trans ?_ (Below.mono (by assumption) (by first | omega | (simp only [World.size_alloc]; omega) | (simp; done)))))⟩; simp [inR])

theorem hook_any (r : Rg) (w : World) :
    Calls Try.prog 77 #[.agg #[I r.lo, I r.hi]] w fun e w' => e = .returned (.bool (okRg r (-3) 3)) ∧ Below w.heap.size w w' := by
  go_enter Try.func77, Try.ntmps77
  go_wp2_with (go_at_call 95; refine Calls.mono (inside_any _ _ _ _) ?_; rintro e w1 ⟨rfl, hbw1⟩; obtain ⟨hcw1, hfw1, hzw1⟩ := bcell hbw1; (try simp only [World.size_alloc] at hzw1); clear hcw1 hfw1)
  all_goals (go_ret; exact ⟨rfl, by (repeat (first | assumption | exact Below.refl _ _ | refine Below.alloc ?_ (by first | omega | (simp only [World.size_alloc]; omega) | (simp; done)) _ | refine Below.trans ?_ (Below.mono (by assumption) (by first | omega | (simp only [World.size_alloc]; omega) | (simp; done)))))⟩)

theorem on_any (l : La) (s : St) (ha pa : Option Addr) (hc pc : Nat) (w : World) :
    Calls Try.prog 65 #[.agg #[I l.boards, I l.rows, .slice ha l.hooks.length hc, .slice pa l.patches.length pc], .agg #[I s.b, I s.d]] w fun e w' => e = .returned (.bool (onL l s)) ∧ Below w.heap.size w w' := by
  go_enter Try.func65, Try.ntmps65
  go_wp2_with (go_at_call 57; refine Calls.mono (within_any _ _ _ _) ?_; rintro e w' ⟨rfl, rfl⟩)
  all_goals (go_ret; refine ⟨ret_bool ?_, by (repeat (first | assumption | exact Below.refl _ _ | refine Below.alloc ?_ (by first | omega | (simp only [World.size_alloc]; omega) | (simp; done)) _ | refine Below.trans ?_ (Below.mono (by assumption) (by first | omega | (simp only [World.size_alloc]; omega) | (simp; done)))))⟩; simp [onL])

set_option maxHeartbeats 400000 in
theorem patch_any (l : La) (p : Pa) (ha pa : Option Addr) (hc pc : Nat) (w : World) (h1 : 1 ≤ l.rows) (h2 : l.rows ≤ 12) (h3 : 0 < l.hooks.length) (h4 : l.hooks.length ≤ 4) :
    Calls Try.prog 79 #[.agg #[I l.boards, I l.rows, .slice ha l.hooks.length hc, .slice pa l.patches.length pc], .agg #[I p.rows.lo, I p.rows.hi, I p.boards.lo, I p.boards.hi, I p.level]] w fun e w' => e = .returned (.bool (okPa l p)) ∧ Below w.heap.size w w' := by
  go_enter Try.func79, Try.ntmps79
  go_wp2_with (first | (go_at_call 57; refine Calls.mono (within_any _ _ _ _) ?_; rintro e w' ⟨rfl, rfl⟩) | (go_at_call 95; refine Calls.mono (inside_any ⟨_, _⟩ _ _ _) ?_; rintro e w1 ⟨rfl, hbw1⟩; obtain ⟨hcw1, hfw1, hzw1⟩ := bcell hbw1; (try simp only [World.size_alloc] at hzw1); have := fun o => hcw1 (w.heap.size) o (by first | omega | (simp only [World.size_alloc]; omega) | (simp; done)); have := fun o => hfw1 (w.heap.size) o (by first | omega | (simp only [World.size_alloc]; omega) | (simp; done)); have := fun o => hcw1 (w.heap.size+1) o (by first | omega | (simp only [World.size_alloc]; omega) | (simp; done)); have := fun o => hfw1 (w.heap.size+1) o (by first | omega | (simp only [World.size_alloc]; omega) | (simp; done)); clear hcw1 hfw1))
  all_goals
    go_ret
    refine ⟨ret_bool ?_, by (repeat (first | assumption | exact Below.refl _ _ | refine Below.alloc ?_ (by first | omega | (simp only [World.size_alloc]; omega) | (simp; done)) _ | refine Below.trans ?_ (Below.mono (by assumption) (by first | omega | (simp only [World.size_alloc]; omega) | (simp; done)))))⟩
    rw [Bool.eq_iff_iff]
    simp_all [okPa]

theorem IndexFuncR_any (xs : List Rg) (p : Rg → Bool) (g : FuncId) (fa cb : Array Value) (a : Option Addr) (cap : Nat) (w : World) (H : SlAt w a xs.length cap (xs.flatMap encRg))
    (eg : ∀ args w, (callFunc g args).run Try.prog w = .ok (.enter g args) w)
    (hp : ∀ (x : Rg) (W : World), x ∈ xs → Below w.heap.size w W → Calls Try.prog g (fa ++ #[.agg #[I x.lo, I x.hi]] ++ cb) W fun e w' => e = .returned (.bool (p x)) ∧ Below W.heap.size W w') :
    Calls Try.prog 101 #[.slice a xs.length cap, .func (.func g) fa cb] w fun e w' => e = .returned (I (idxOf p xs)) ∧ Below w.heap.size w w' := by
  have hbd := H.bd
  have H2 := Lib.hid H
  have hp2 := Lib.hid hp
  clear H hp
  go_enter Try.func101, Try.ntmps101
  go_wp2_with fail
  go_loopw [8] (fun i wr => ∃ k : Nat, i = I k ∧ k ≤ xs.length ∧ (xs.take k).any p = false ∧ Below w.heap.size w wr) (fun i _ => xs.length - (intOf i).toNat)
  case atStart => exact ⟨0, rfl, by omega, rfl, Below.refl _ _⟩
  case round =>
    obtain ⟨k, rfl, hk, hno, hb⟩ := hrel
    have hNO := Lib.hid hno
    clear hno
    by_cases hlt : k < xs.length
    · obtain ⟨b, o, rfl, hbl, hce⟩ := (H2.out.below hb (Nat.le_refl _)).rec 2 encRg_len (by decide) k hlt
      have c0 := hce 0 _ rfl
      have c1 := hce 1 _ rfl
      rw [Nat.add_zero] at c0
      clear hce
      go_wp2_with fail
      refine (hp2.out xs[k] wr (by simp) hb).mono ?_
      rintro e w1 ⟨rfl, hb1⟩
      have hb2 := hb.trans (hb1.mono hb.size)
      cases hpx : p xs[k]
      · have hx := any_take_succ hlt hNO.out hpx
        have HX := Lib.hid hx
        clear hx hpx
        go_wp2
        go_roundw
        case rel => exact ⟨k + 1, by go_num, by omega, HX.out, hb2⟩
        case measure => simp [intOf]; omega
      · have hx := idxOf_hit hlt hNO.out hpx
        have HX := Lib.hid hx
        clear hx hpx
        go_wp2
        go_ret
        exact ⟨ret_int (by rw [HX.out]), hb2⟩
    · have hx : idxOf p xs = -1 := idxOf_none (by have := hNO.out; rwa [List.take_of_length_le (by omega)] at this)
      have HX := Lib.hid hx
      clear hx
      go_wp2
      go_ret
      exact ⟨ret_int (by rw [HX.out]), hb⟩

theorem ContainsFuncR_any (xs : List Rg) (p : Rg → Bool) (g : FuncId) (fa cb : Array Value) (a : Option Addr) (cap : Nat) (w : World) (H : SlAt w a xs.length cap (xs.flatMap encRg))
    (eg : ∀ args w, (callFunc g args).run Try.prog w = .ok (.enter g args) w)
    (hp : ∀ (x : Rg) (W : World), x ∈ xs → Below w.heap.size w W → Calls Try.prog g (fa ++ #[.agg #[I x.lo, I x.hi]] ++ cb) W fun e w' => e = .returned (.bool (p x)) ∧ Below W.heap.size W w') :
    Calls Try.prog 93 #[.slice a xs.length cap, .func (.func g) fa cb] w fun e w' => e = .returned (.bool (xs.any p)) ∧ Below w.heap.size w w' := by
  have hI := IndexFuncR_any xs p g fa cb a cap w H eg hp
  have HI := Lib.hid hI
  have HA := Lib.hid (idxOf_any (p := p) (xs := xs))
  clear hI H hp
  go_enter Try.func93, Try.ntmps93
  go_wp2_with (go_at_call 101; refine HI.out.mono ?_; rintro e w1 ⟨rfl, hb1⟩)
  all_goals (go_ret; exact ⟨ret_bool (by rw [← HA.out]), hb1⟩)

/-- all: each element is right, 'right' a function that reads. -/
theorem allR_any (xs : List Rg) (p : Rg → Bool) (g : FuncId) (fa cb : Array Value) (a : Option Addr) (cap : Nat) (w : World) (H : SlAt w a xs.length cap (xs.flatMap encRg))
    (eg : ∀ args w, (callFunc g args).run Try.prog w = .ok (.enter g args) w)
    (hp : ∀ (x : Rg) (W : World), x ∈ xs → Below w.heap.size w W → Calls Try.prog g (fa ++ #[.agg #[I x.lo, I x.hi]] ++ cb) W fun e w' => e = .returned (.bool (p x)) ∧ Below W.heap.size W w') :
    Calls Try.prog 76 #[.slice a xs.length cap, .func (.func g) fa cb] w fun e w' => e = .returned (.bool (xs.all p)) ∧ Below w.heap.size w w' := by
  have hC := ContainsFuncR_any xs (fun x => !p x) 94 #[] #[.pointer (some ⟨w.heap.size, 0, none⟩)] a cap (w.alloc (.cells #[.func (.func g) fa cb] 140)) (H.below ((Below.refl _ _).alloc (Nat.le_refl _) _) (Nat.le_refl _)) (enters_of Try.func94 (by kernel_rfl) rfl) (by
    intro x W hx hb
    have hc : W.cell? ⟨w.heap.size, 0, none⟩ = some (.func (.func g) fa cb) := by
      rw [hb.cell (p := ⟨w.heap.size, 0, none⟩) (by simp)]; simp
    have hlt : w.heap.size < W.heap.size := by have := hb.size; simp at this; omega
    have hq := fun o => hp x (W.alloc o) hx ((((Below.refl _ _).alloc (Nat.le_refl _) _).trans (hb.mono (by simp))).alloc (by omega) o)
    have HQ := Lib.hid hq
    clear hq hp H hb
    show Calls Try.prog 94 #[.agg #[I x.lo, I x.hi], .pointer (some ⟨w.heap.size, 0, none⟩)] W _
    go_enter Try.func94, Try.ntmps94
    go_wp2_with fail
    refine (HQ.out _).mono ?_
    rintro e w1 ⟨rfl, hb1⟩
    go_wp2
    go_ret
    exact ⟨rfl, by (repeat (first | assumption | exact Below.refl _ _ | refine Below.alloc ?_ (by first | omega | (simp only [World.size_alloc]; omega) | (simp; done)) _ | refine Below.trans ?_ (Below.mono (by assumption) (by first | omega | (simp only [World.size_alloc]; omega) | (simp; done)))))⟩)
  have HC := Lib.hid hC
  clear hC hp H
  go_enter Try.func76, Try.ntmps76
  go_wp2_with (go_at_call 93; refine HC.out.mono ?_; rintro e w1 ⟨rfl, hb1⟩)
  go_ret
  refine ⟨ret_bool ?_, by (repeat (first | assumption | exact Below.refl _ _ | refine Below.alloc ?_ (by first | omega | (simp only [World.size_alloc]; omega) | (simp; done)) _ | refine Below.trans ?_ (Below.mono (by assumption) (by first | omega | (simp only [World.size_alloc]; omega) | (simp; done)))))⟩
  rw [List.all_eq_not_any_not]

theorem IndexFuncP_any (xs : List Pa) (p : Pa → Bool) (g : FuncId) (fa cb : Array Value) (a : Option Addr) (cap : Nat) (w : World) (H : SlAt w a xs.length cap (xs.flatMap encPa))
    (eg : ∀ args w, (callFunc g args).run Try.prog w = .ok (.enter g args) w)
    (hp : ∀ (x : Pa) (W : World), x ∈ xs → Below w.heap.size w W → Calls Try.prog g (fa ++ #[.agg #[I x.rows.lo, I x.rows.hi, I x.boards.lo, I x.boards.hi, I x.level]] ++ cb) W fun e w' => e = .returned (.bool (p x)) ∧ Below W.heap.size W w') :
    Calls Try.prog 102 #[.slice a xs.length cap, .func (.func g) fa cb] w fun e w' => e = .returned (I (idxOf p xs)) ∧ Below w.heap.size w w' := by
  have hbd := H.bd
  have H2 := Lib.hid H
  have hp2 := Lib.hid hp
  clear H hp
  go_enter Try.func102, Try.ntmps102
  go_wp2_with fail
  go_loopw [8] (fun i wr => ∃ k : Nat, i = I k ∧ k ≤ xs.length ∧ (xs.take k).any p = false ∧ Below w.heap.size w wr) (fun i _ => xs.length - (intOf i).toNat)
  case atStart => exact ⟨0, rfl, by omega, rfl, Below.refl _ _⟩
  case round =>
    obtain ⟨k, rfl, hk, hno, hb⟩ := hrel
    have hNO := Lib.hid hno
    clear hno
    by_cases hlt : k < xs.length
    · obtain ⟨b, o, rfl, hbl, hce⟩ := (H2.out.below hb (Nat.le_refl _)).rec 5 encPa_len (by decide) k hlt
      have c0 := hce 0 _ rfl
      have c1 := hce 1 _ rfl
      have c2 := hce 2 _ rfl
      have c3 := hce 3 _ rfl
      have c4 := hce 4 _ rfl
      rw [Nat.add_zero] at c0
      clear hce
      go_wp2_with fail
      refine (hp2.out xs[k] wr (by simp) hb).mono ?_
      rintro e w1 ⟨rfl, hb1⟩
      have hb2 := hb.trans (hb1.mono hb.size)
      cases hpx : p xs[k]
      · have hx := any_take_succ hlt hNO.out hpx
        have HX := Lib.hid hx
        clear hx hpx
        go_wp2
        go_roundw
        case rel => exact ⟨k + 1, by go_num, by omega, HX.out, hb2⟩
        case measure => simp [intOf]; omega
      · have hx := idxOf_hit hlt hNO.out hpx
        have HX := Lib.hid hx
        clear hx hpx
        go_wp2
        go_ret
        exact ⟨ret_int (by rw [HX.out]), hb2⟩
    · have hx : idxOf p xs = -1 := idxOf_none (by have := hNO.out; rwa [List.take_of_length_le (by omega)] at this)
      have HX := Lib.hid hx
      clear hx
      go_wp2
      go_ret
      exact ⟨ret_int (by rw [HX.out]), hb⟩

theorem ContainsFuncP_any (xs : List Pa) (p : Pa → Bool) (g : FuncId) (fa cb : Array Value) (a : Option Addr) (cap : Nat) (w : World) (H : SlAt w a xs.length cap (xs.flatMap encPa))
    (eg : ∀ args w, (callFunc g args).run Try.prog w = .ok (.enter g args) w)
    (hp : ∀ (x : Pa) (W : World), x ∈ xs → Below w.heap.size w W → Calls Try.prog g (fa ++ #[.agg #[I x.rows.lo, I x.rows.hi, I x.boards.lo, I x.boards.hi, I x.level]] ++ cb) W fun e w' => e = .returned (.bool (p x)) ∧ Below W.heap.size W w') :
    Calls Try.prog 96 #[.slice a xs.length cap, .func (.func g) fa cb] w fun e w' => e = .returned (.bool (xs.any p)) ∧ Below w.heap.size w w' := by
  have hI := IndexFuncP_any xs p g fa cb a cap w H eg hp
  have HI := Lib.hid hI
  have HA := Lib.hid (idxOf_any (p := p) (xs := xs))
  clear hI H hp
  go_enter Try.func96, Try.ntmps96
  go_wp2_with (go_at_call 102; refine HI.out.mono ?_; rintro e w1 ⟨rfl, hb1⟩)
  all_goals (go_ret; exact ⟨ret_bool (by rw [← HA.out]), hb1⟩)

/-- all: each element is right, 'right' a function that reads. -/
theorem allP_any (xs : List Pa) (p : Pa → Bool) (g : FuncId) (fa cb : Array Value) (a : Option Addr) (cap : Nat) (w : World) (H : SlAt w a xs.length cap (xs.flatMap encPa))
    (eg : ∀ args w, (callFunc g args).run Try.prog w = .ok (.enter g args) w)
    (hp : ∀ (x : Pa) (W : World), x ∈ xs → Below w.heap.size w W → Calls Try.prog g (fa ++ #[.agg #[I x.rows.lo, I x.rows.hi, I x.boards.lo, I x.boards.hi, I x.level]] ++ cb) W fun e w' => e = .returned (.bool (p x)) ∧ Below W.heap.size W w') :
    Calls Try.prog 78 #[.slice a xs.length cap, .func (.func g) fa cb] w fun e w' => e = .returned (.bool (xs.all p)) ∧ Below w.heap.size w w' := by
  have hC := ContainsFuncP_any xs (fun x => !p x) 97 #[] #[.pointer (some ⟨w.heap.size, 0, none⟩)] a cap (w.alloc (.cells #[.func (.func g) fa cb] 142)) (H.below ((Below.refl _ _).alloc (Nat.le_refl _) _) (Nat.le_refl _)) (enters_of Try.func97 (by kernel_rfl) rfl) (by
    intro x W hx hb
    have hc : W.cell? ⟨w.heap.size, 0, none⟩ = some (.func (.func g) fa cb) := by
      rw [hb.cell (p := ⟨w.heap.size, 0, none⟩) (by simp)]; simp
    have hlt : w.heap.size < W.heap.size := by have := hb.size; simp at this; omega
    have hq := fun o => hp x (W.alloc o) hx ((((Below.refl _ _).alloc (Nat.le_refl _) _).trans (hb.mono (by simp))).alloc (by omega) o)
    have HQ := Lib.hid hq
    clear hq hp H hb
    show Calls Try.prog 97 #[.agg #[I x.rows.lo, I x.rows.hi, I x.boards.lo, I x.boards.hi, I x.level], .pointer (some ⟨w.heap.size, 0, none⟩)] W _
    go_enter Try.func97, Try.ntmps97
    go_wp2_with fail
    refine (HQ.out _).mono ?_
    rintro e w1 ⟨rfl, hb1⟩
    go_wp2
    go_ret
    exact ⟨rfl, by (repeat (first | assumption | exact Below.refl _ _ | refine Below.alloc ?_ (by first | omega | (simp only [World.size_alloc]; omega) | (simp; done)) _ | refine Below.trans ?_ (Below.mono (by assumption) (by first | omega | (simp only [World.size_alloc]; omega) | (simp; done)))))⟩)
  have HC := Lib.hid hC
  clear hC hp H
  go_enter Try.func78, Try.ntmps78
  go_wp2_with (go_at_call 96; refine HC.out.mono ?_; rintro e w1 ⟨rfl, hb1⟩)
  go_ret
  refine ⟨ret_bool ?_, by (repeat (first | assumption | exact Below.refl _ _ | refine Below.alloc ?_ (by first | omega | (simp only [World.size_alloc]; omega) | (simp; done)) _ | refine Below.trans ?_ (Below.mono (by assumption) (by first | omega | (simp only [World.size_alloc]; omega) | (simp; done)))))⟩
  rw [List.all_eq_not_any_not]

end Go.Proofs.Ytcfhbnfincpehaa
