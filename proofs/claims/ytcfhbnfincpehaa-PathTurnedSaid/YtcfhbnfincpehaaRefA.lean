/- The walks of the reference's small functions (kingpinref04): In, span, Fault, IsStart, IsPocket, Hook, Next, Verdict, Less. Nothing is asked but how the arguments lie. -/
import Derived.Test.YtcfhbnfincpehaaChecked
import Derived.Test.YtcfhbnfincpehaaSpec
namespace Go.Proofs.Ytcfhbnfincpehaa
open Go.RowKit
attribute [local go_sem] lt_step le_step

/-- How the lists of a lane lie. -/
def LaneAt (w : World) (l : La) (ha : Option Addr) (hc : Nat) (pa : Option Addr) (pc : Nat) : Prop :=
  SlAt w ha l.hooks.length hc (l.hooks.flatMap encRg) ∧ SlAt w pa l.patches.length pc (l.patches.flatMap encPa)
theorem LaneAt.below {w w' : World} {l : La} {ha : Option Addr} {hc : Nat} {pa : Option Addr} {pc B : Nat} (h : LaneAt w l ha hc pa pc) (hb : Below B w w') (hB : w.heap.size ≤ B) : LaneAt w' l ha hc pa pc :=
  ⟨h.1.below hb hB, h.2.below hb hB⟩

theorem In_any (n lo hi : Int) (w : World) :
    Calls Try.prog 22 #[I n, I lo, I hi] w fun e w' => e = .returned (.bool (decide (lo ≤ n ∧ n ≤ hi))) ∧ w = w' := by
  go_enter Try.func22, Try.ntmps22
  go_wp2
  all_goals (go_ret; refine ⟨ret_bool ?_, rfl⟩; rw [Bool.eq_iff_iff]; simp <;> omega)

theorem span_any (a b lo hi : Int) (w : World) :
    Calls Try.prog 70 #[.agg #[I a, I b], I lo, I hi] w fun e w' => e = .returned (.bool (okRg ⟨a, b⟩ lo hi)) ∧ Below w.heap.size w w' := by
  go_enter Try.func70, Try.ntmps70
  go_wp2_with (go_at_call 22; refine Calls.mono (In_any _ _ _ _) ?_; rintro e w' ⟨rfl, rfl⟩)
  all_goals (go_ret; refine ⟨ret_bool ?_, (Below.refl _ _).alloc (Nat.le_refl _) _⟩; rw [Bool.eq_iff_iff]; simp [okRg] <;> omega)

set_option maxHeartbeats 800000 in
theorem Fault_any (l : La) (ha pa : Option Addr) (hc pc : Nat) (w : World) (H : LaneAt w l ha hc pa pc) :
    Calls Try.prog 28 #[.agg #[I l.boards, I l.rows, .slice ha l.hooks.length hc, .slice pa l.patches.length pc]] w fun e w' => e = .returned (I (fault l)) ∧ Below w.heap.size w w' := by
  have H2 := Lib.hid H
  clear H
  by_cases g1 : 8 < l.patches.length ∨ 4 < l.hooks.length ∨ ¬ (1 ≤ l.boards ∧ l.boards ≤ 40) ∨ ¬ (1 ≤ l.rows ∧ l.rows ≤ 12) ∨ l.hooks.length = 0
  · by_cases g2 : l.hooks.length = 0
    all_goals
      have e0 : ((l.hooks.length : Int) == 0) = decide (l.hooks.length = 0) := by rw [Bool.eq_iff_iff]; simp
      simp only [g2, decide_true, decide_false] at e0
      go_enter Try.func28, Try.ntmps28
      go_wp2_with (first | (go_at_call 22; refine Calls.mono (In_any _ _ _ _) ?_; rintro e w' ⟨rfl, rfl⟩) | fail)
      all_goals (first | (exfalso; omega) | (go_ret; refine ⟨ret_int ?_, (Below.refl _ _).alloc (Nat.le_refl _) _⟩; unfold fault; split <;> first | rfl | omega | (split <;> first | rfl | omega)))
  · have e0 : ((l.hooks.length : Int) == 0) = false := by simp; intro e; apply g1; simp [e]
    have p1 : l.patches.length ≤ 8 := by omega
    have p2 : l.hooks.length ≤ 4 := by omega
    have p3 : 1 ≤ l.boards := by omega
    have p4 : l.boards ≤ 40 := by omega
    have p5 : 1 ≤ l.rows := by omega
    have p6 : l.rows ≤ 12 := by omega
    clear g1
    have hF : Hid (fault l = if l.hooks.all (fun h => okRg h (-3) 3) = false then 1 else if l.patches.all (okPa l) = false then 1 else 0) := by
      have e1 : l.hooks.length ≠ 0 := by intro e; simp [e] at e0
      show fault l = _
      unfold fault; rw [if_neg (by omega), if_neg (by omega)]
    go_enter Try.func28, Try.ntmps28
    go_wp2_with (first | (go_at_call 22; refine Calls.mono (In_any _ _ _ _) ?_; rintro e w' ⟨rfl, rfl⟩) | fail)
    go_loopw [3] (fun i wr => ∃ k : Nat, i = I k ∧ k ≤ l.hooks.length ∧ (l.hooks.take k).all (fun h => okRg h (-3) 3) = true ∧ Below w.heap.size w wr ∧ Box wr w.heap.size [I l.boards, I l.rows, .slice ha l.hooks.length hc, .slice pa l.patches.length pc]) (fun i _ => l.hooks.length - (intOf i).toNat)
    case atStart => exact ⟨0, rfl, by omega, rfl, (Below.refl _ _).alloc (Nat.le_refl _) _, Box.new _ _ _⟩
    case round =>
      obtain ⟨k, rfl, hk, hok, hb, hx⟩ := hrel
      have hOK := Lib.hid hok
      clear hok
      have x2 := hx.cell 2 rfl
      have x3 := hx.cell 3 rfl
      have hz := hx.lt
      by_cases hlt : k < l.hooks.length
      · obtain ⟨b, o, rfl, hbl, hce⟩ := (H2.out.1.below hb (Nat.le_refl _)).rec 2 encRg_len (by decide) k hlt
        have c0 := hce 0 _ rfl
        have c1 := hce 1 _ rfl
        rw [Nat.add_zero] at c0
        clear hce
        go_wp2_with (first | (go_at_call 70; refine (span_any _ _ _ _ _).mono ?_; rintro e w1 ⟨rfl, hb1⟩) | fail)
        · go_ret
          refine ⟨ret_int ?_, hb.trans (hb1.mono hb.size)⟩
          rw [hF.out, if_pos]
          rename_i hno
          rw [List.all_eq_false]
          exact ⟨l.hooks[k], by simp, by simpa using hno⟩
        · rename_i hyes
          go_roundw
          case rel => exact ⟨k + 1, by go_num, by omega, by rw [List.take_succ_eq_append_getElem hlt, List.all_append, hOK.out]; simpa using hyes, hb.trans (hb1.mono hb.size), hx.later hb1⟩
          case measure => simp [intOf]; omega
      · have hO2 : Hid (l.hooks.all (fun h => okRg h (-3) 3) = true) := by have := hOK.out; rwa [List.take_of_length_le (by omega)] at this
        clear hOK
        go_wp2_with (first | (go_at_call 22; refine Calls.mono (In_any _ _ _ _) ?_; rintro e w' ⟨rfl, rfl⟩) | fail)
        go_loopw [4] (fun i wr => ∃ k : Nat, i = I k ∧ k ≤ l.patches.length ∧ (l.patches.take k).all (okPa l) = true ∧ Below w.heap.size w wr ∧ Box wr w.heap.size [I l.boards, I l.rows, .slice ha l.hooks.length hc, .slice pa l.patches.length pc]) (fun i _ => l.patches.length - (intOf i).toNat)
        case atStart => exact ⟨0, rfl, by omega, rfl, hb, hx⟩
        case round =>
          clear hb hx x2 x3 hz
          obtain ⟨j, rfl, hj, hok, hb, hx⟩ := hrel
          have hOK := Lib.hid hok
          clear hok
          have x0 := hx.cell 0 rfl
          have x1 := hx.cell 1 rfl
          have x2 := hx.cell 2 rfl
          have x3 := hx.cell 3 rfl
          have hz := hx.lt
          by_cases hlj : j < l.patches.length
          · obtain ⟨b, o, rfl, hbl, hce⟩ := (H2.out.2.below hb (Nat.le_refl _)).rec 5 encPa_len (by decide) j hlj
            have c0 := hce 0 _ rfl
            have c1 := hce 1 _ rfl
            have c2 := hce 2 _ rfl
            have c3 := hce 3 _ rfl
            have c4 := hce 4 _ rfl
            rw [Nat.add_zero] at c0
            clear hce
            go_wp2_with (first | (go_at_call 22; refine Calls.mono (In_any _ _ _ _) ?_; rintro e w' ⟨rfl, rfl⟩) | (go_at_call 70; refine Calls.mono (span_any _ _ _ _ _) ?_; rintro e w1 ⟨rfl, hbw1⟩; obtain ⟨hcw1, hfw1, hzw1⟩ := bcell hbw1; (try simp only [World.size_alloc] at hzw1); have := fun o => hcw1 (w.heap.size) o (by first | omega | (simp only [World.size_alloc]; omega) | (simp; done)); have := fun o => hfw1 (w.heap.size) o (by first | omega | (simp only [World.size_alloc]; omega) | (simp; done)); have := fun o => hcw1 (wr.heap.size) o (by first | omega | (simp only [World.size_alloc]; omega) | (simp; done)); have := fun o => hfw1 (wr.heap.size) o (by first | omega | (simp only [World.size_alloc]; omega) | (simp; done)); have := fun o => hcw1 (b) o (by first | omega | (simp only [World.size_alloc]; omega) | (simp; done)); have := fun o => hfw1 (b) o (by first | omega | (simp only [World.size_alloc]; omega) | (simp; done)); clear hcw1 hfw1) | fail)
            case roundEnd =>
              have e1 : okRg ⟨l.patches[j].rows.lo, l.patches[j].rows.hi⟩ 0 (l.rows - 1) = true := by assumption
              have e2 : okRg ⟨l.patches[j].boards.lo, l.patches[j].boards.hi⟩ 1 l.boards = true := by assumption
              rename_i e3
              go_roundw
              case rel =>
                refine ⟨j + 1, by go_num, by omega, ?_, ?_, ?_⟩
                · rw [List.take_succ_eq_append_getElem hlj, List.all_append, hOK.out]
                  simp at e3
                  simp [okPa, e1, e2]
                  omega
                · (repeat (first | assumption | exact Below.refl _ _ | refine Below.alloc ?_ (by first | omega | (simp only [World.size_alloc]; omega) | (simp; done)) _ | refine Below.trans ?_ (Below.mono (by assumption) (by first | omega | (simp only [World.size_alloc]; omega) | (simp; done)))))
                · exact hx.below (B := w.heap.size + 1) (w := wr) (by (repeat (first | assumption | exact Below.refl _ _ | refine Below.alloc ?_ (by first | omega | (simp only [World.size_alloc]; omega) | (simp; done)) _ | refine Below.trans ?_ (Below.mono (by assumption) (by first | omega | (simp only [World.size_alloc]; omega) | (simp; done)))))) (by omega)
              case measure => simp [intOf]; omega
            all_goals
              go_ret
              refine ⟨ret_int ?_, by (repeat (first | assumption | exact Below.refl _ _ | refine Below.alloc ?_ (by first | omega | (simp only [World.size_alloc]; omega) | (simp; done)) _ | refine Below.trans ?_ (Below.mono (by assumption) (by first | omega | (simp only [World.size_alloc]; omega) | (simp; done)))))⟩
              rw [hF.out, if_neg (by rw [hO2.out]; simp), if_pos]
              rw [List.all_eq_false]
              refine ⟨l.patches[j], by simp, ?_⟩
              intro hA
              have hA2 : (okRg l.patches[j].rows 0 (l.rows - 1) = true ∧ okRg l.patches[j].boards 1 l.boards = true) ∧ (0 ≤ l.patches[j].level ∧ l.patches[j].level ≤ (l.hooks.length : Int) - 1) := by simpa [okPa] using hA
              obtain ⟨⟨a1, a2⟩, a3⟩ := hA2
              first
                | exact absurd a1 (by assumption)
                | exact absurd a2 (by assumption)
                | (rename_i hno; simp at hno; omega)
          · go_wp2
            go_ret
            exact ⟨ret_int (by rw [hF.out, if_neg (by rw [hO2.out]; simp), if_neg]; have := hOK.out; rw [List.take_of_length_le (by omega)] at this; simp [this]), hb⟩

theorem IsStart_any (l : La) (s : St) (ha pa : Option Addr) (hc pc : Nat) (w : World) :
    Calls Try.prog 60 #[.agg #[I l.boards, I l.rows, .slice ha l.hooks.length hc, .slice pa l.patches.length pc], .agg #[I s.b, I s.d]] w fun e w' => e = .returned (.bool (isStart l s)) ∧ Below w.heap.size w w' := by
  go_enter Try.func60, Try.ntmps60
  go_wp2_with (go_at_call 22; refine Calls.mono (In_any _ _ _ _) ?_; rintro e w' ⟨rfl, rfl⟩)
  all_goals (go_ret; refine ⟨ret_bool ?_, by (repeat (first | assumption | exact Below.refl _ _ | refine Below.alloc ?_ (by first | omega | (simp only [World.size_alloc]; omega) | (simp; done)) _ | refine Below.trans ?_ (Below.mono (by assumption) (by first | omega | (simp only [World.size_alloc]; omega) | (simp; done)))))⟩; rw [Bool.eq_iff_iff]; simp [isStart] <;> omega)

theorem IsPocket_any (p : Pk) (w : World) :
    Calls Try.prog 33 #[.agg #[I p.boards.lo, I p.boards.hi, I p.dirs.lo, I p.dirs.hi]] w fun e w' => e = .returned (.bool (isPocket p)) ∧ Below w.heap.size w w' := by
  go_enter Try.func33, Try.ntmps33
  go_wp2
  all_goals (go_ret; refine ⟨ret_bool ?_, by (repeat (first | assumption | exact Below.refl _ _ | refine Below.alloc ?_ (by first | omega | (simp only [World.size_alloc]; omega) | (simp; done)) _ | refine Below.trans ?_ (Below.mono (by assumption) (by first | omega | (simp only [World.size_alloc]; omega) | (simp; done)))))⟩; rw [Bool.eq_iff_iff]; simp [isPocket] <;> omega)

theorem Next_any (s : St) (t : Int) (w : World) (h1 : -5 ≤ s.d) (h2 : s.d ≤ 5) (h3 : -3 ≤ t) (h4 : t ≤ 3) (h5 : -1000 ≤ s.b) (h6 : s.b ≤ 1000) :
    Calls Try.prog 38 #[.agg #[I s.b, I s.d], I t] w fun e w' => e = .returned (.agg #[I (nextS s t).b, I (nextS s t).d]) ∧ Below w.heap.size w w' := by
  obtain ⟨c, hc⟩ : ∃ c, c = clamp (s.d + t) := ⟨_, rfl⟩
  have c1 := clamp_bd (s.d + t)
  have HN : Hid (nextS s t = ⟨s.b + c, c⟩ ∧ c = max (-5) (min 5 (s.d + t))) := ⟨by rw [hc]; rfl, by rw [hc]; rfl⟩
  rw [← hc] at c1
  clear hc
  go_enter Try.func38, Try.ntmps38
  go_wp2
  all_goals
    rw [HN.out.1]
    have e := HN.out.2
    refine bodyPost_ret (v := .agg #[I (s.b + c), I c]) ?_ rfl ⟨rfl, by (repeat (first | assumption | exact Below.refl _ _ | refine Below.alloc ?_ (by first | omega | (simp only [World.size_alloc]; omega) | (simp; done)) _ | refine Below.trans ?_ (Below.mono (by assumption) (by first | omega | (simp only [World.size_alloc]; omega) | (simp; done)))))⟩
    simp [results, Try.results38, go_sem]
    omega

theorem Less_any (s t : St) (w : World) :
    Calls Try.prog 62 #[.agg #[I s.b, I s.d], .agg #[I t.b, I t.d]] w fun e w' => e = .returned (.bool (lessS s t)) ∧ Below w.heap.size w w' := by
  go_enter Try.func62, Try.ntmps62
  go_wp2
  all_goals (go_ret; refine ⟨ret_bool ?_, by (repeat (first | assumption | exact Below.refl _ _ | refine Below.alloc ?_ (by first | omega | (simp only [World.size_alloc]; omega) | (simp; done)) _ | refine Below.trans ?_ (Below.mono (by assumption) (by first | omega | (simp only [World.size_alloc]; omega) | (simp; done)))))⟩; rw [Bool.eq_iff_iff]; simp [lessS] <;> omega)

theorem Verdict_any (n m : Int) (w : World) :
    Calls Try.prog 63 #[I n, I m] w fun e w' => e = .returned (.int .u8 (verdict n m)) ∧ w = w' := by
  go_enter Try.func63, Try.ntmps63
  go_wp2
  all_goals (go_ret; refine ⟨ret_int ?_, rfl⟩; simp_all [verdict])

end Go.Proofs.Ytcfhbnfincpehaa
