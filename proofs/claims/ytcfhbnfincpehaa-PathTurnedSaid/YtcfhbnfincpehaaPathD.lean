/- The walks of package path: hooks, follow, started. -/
import Derived.Test.YtcfhbnfincpehaaPathC
namespace Go.Proofs.Ytcfhbnfincpehaa
open Go.RowKit Go.Shelf

/-- How a ball lies: its lane's lists, its levels. -/
structure BallAt (w : World) (l : La) (ha : Option Addr) (hc : Nat) (pa : Option Addr) (pc : Nat) (g : Nat) : Prop where
  lane : LaneAt w l ha hc pa pc
  valid : Valid l
  grid : ∃ cs, Box w g cs ∧ GridOf cs l.rows.toNat (levelOf l.patches)
theorem BallAt.later {w w' : World} {l : La} {ha : Option Addr} {hc : Nat} {pa : Option Addr} {pc g : Nat} (h : BallAt w l ha hc pa pc g) (hb : Below w.heap.size w w') : BallAt w' l ha hc pa pc g := by
  obtain ⟨h1, h2, cs, h3, h4⟩ := h
  exact ⟨h1.below hb (Nat.le_refl _), h2, cs, h3.later hb, h4⟩
theorem Valid.rows_eq {l : La} (h : Valid l) : ((l.rows.toNat : Nat) : Int) = l.rows := by have := h.r1; omega

theorem balls_any (l : La) (ha pa : Option Addr) (hc pc : Nat) (w : World) (H : LaneAt w l ha hc pa pc) (V : Valid l) :
    Calls Try.prog 72 #[.agg #[I l.boards, I l.rows, .slice ha l.hooks.length hc, .slice pa l.patches.length pc]] w fun e w' => ∃ g : Nat, e = .returned (.agg #[I l.boards, I l.rows, .slice ha l.hooks.length hc, .slice pa l.patches.length pc, .slice (some ⟨g, 0, none⟩) l.rows.toNat l.rows.toNat]) ∧ w.heap.size ≤ g ∧ BallAt w' l ha hc pa pc g ∧ Below w.heap.size w w' := by
  obtain ⟨B, R0, hooks, patches⟩ := l
  obtain ⟨R, rfl⟩ : ∃ R : Nat, R0 = R := ⟨R0.toNat, by have := V.r1; simp at this; omega⟩
  refine (ball_any B R hooks patches ha pa hc pc w H V).mono ?_
  rintro e w' ⟨g, cs, rfl, hg, hx, hgr, hb⟩
  exact ⟨g, by simp, hg, ⟨H.below hb (Nat.le_refl _), V, cs, hx, by simpa using hgr⟩, hb⟩

set_option maxRecDepth 100000 in
theorem hooks_any (l : La) (row : Int) (s : St) (ha pa : Option Addr) (hc pc g : Nat) (w : World) (H : BallAt w l ha hc pa pc g) (h1 : 0 ≤ row) (h2 : row < l.rows) (h3 : onL l s = true) :
    Calls Try.prog 80 #[.agg #[I l.boards, I l.rows, .slice ha l.hooks.length hc, .slice pa l.patches.length pc, .slice (some ⟨g, 0, none⟩) l.rows.toNat l.rows.toNat], I row, .agg #[I s.b, I s.d]] w fun e w' => e = .returned (.agg #[I (hookOf l row s.b).lo, I (hookOf l row s.b).hi]) ∧ Below w.heap.size w w' := by
  obtain ⟨hl, hv, cs, hx, hg⟩ := H
  have q1 := hv.b2
  have q2 := hv.r2
  have q4 := hv.nh
  have q3 : 1 ≤ s.b ∧ s.b ≤ l.boards := by simpa [onL] using h3
  obtain ⟨r, rfl⟩ : ∃ r : Nat, row = r := ⟨row.toNat, by omega⟩
  obtain ⟨sb, sd⟩ := s
  simp only at q3
  obtain ⟨c, rfl⟩ : ∃ c : Nat, sb = c := ⟨sb.toNat, by omega⟩
  obtain ⟨lv, hlv⟩ : ∃ lv, levelOf l.patches r c = lv := ⟨_, rfl⟩
  have q5 := levelOf_bd hv r c
  rw [hlv] at q5
  obtain ⟨lv, rfl⟩ : ∃ n : Nat, lv = n := ⟨lv.toNat, by omega⟩
  have hlt : lv < l.hooks.length := by omega
  have cg : w.cell? ⟨g, r * 41 + c, none⟩ = some (I lv) := by rw [← hlv]; exact hx.cell _ (hg.2 r c (by omega) (by omega))
  have hgl := hx.lt
  obtain ⟨b, o, rfl, hbl, hce⟩ := hl.1.rec 2 encRg_len (by decide) lv hlt
  have c0 := hce 0 _ rfl
  have c1 := hce 1 _ rfl
  rw [Nat.add_zero] at c0
  have hh : hookOf l r c = l.hooks[lv] := by
    unfold hookOf
    rw [hlv, List.getD_eq_getElem?_getD, Int.toNat_natCast, List.getElem?_eq_getElem hlt]; rfl
  have HH := Lib.hid hh
  have hrt : r < l.rows.toNat := by omega
  (have o1g : g < w.heap.size + 1 := by omega); (have o2g : g < w.heap.size + 1 + 1 := by omega); (have o3g : g < w.heap.size + 1 + 1 + 1 := by omega)
  (have o1b : b < w.heap.size + 1 := by omega); (have o2b : b < w.heap.size + 1 + 1 := by omega); (have o3b : b < w.heap.size + 1 + 1 + 1 := by omega)
  clear hce hx hg hlv hl hh h3
  go_enter Try.func80, Try.ntmps80
  go_wp2_with fail
  go_region
  all_goals
    go_wp2_with fail
    rw [HH.out]
    refine bodyPost_ret (v := .agg #[I l.hooks[lv].lo, I l.hooks[lv].hi]) ?_ rfl ⟨rfl, ?_⟩
    · simp [results, Try.results80, go_sem]
    · refine Below.drew ?_
      (repeat (first | assumption | exact Below.refl _ _ | refine Below.alloc ?_ (by first | omega | (simp only [World.size_alloc]; omega) | (simp; done)) _ | refine Below.trans ?_ (Below.mono (by assumption) (by first | omega | (simp only [World.size_alloc]; omega) | (simp; done)))))

/-- follow: the iterator, over two boxes of its own: the hooks, and the state. -/
theorem follow_any (l : La) (row : Int) (s : St) (ha pa : Option Addr) (hc pc g : Nat) (w : World) (H : BallAt w l ha hc pa pc g) (h1 : 0 ≤ row) (h2 : row < l.rows) (h3 : onL l s = true) :
    Calls Try.prog 66 #[.agg #[I l.boards, I l.rows, .slice ha l.hooks.length hc, .slice pa l.patches.length pc, .slice (some ⟨g, 0, none⟩) l.rows.toNat l.rows.toNat], I row, .agg #[I s.b, I s.d]] w fun e w' => ∃ hb sb : Nat, e = .returned (.func (.func 88) #[] #[.pointer (some ⟨hb, 0, none⟩), .pointer (some ⟨sb, 0, none⟩)]) ∧
      w.heap.size ≤ hb ∧ w.heap.size ≤ sb ∧ Box w' hb [I (hookOf l row s.b).lo, I (hookOf l row s.b).hi] ∧ Box w' sb [I s.b, I s.d] ∧ Below w.heap.size w w' := by
  obtain ⟨hk, hhk⟩ : ∃ hk, hookOf l row s.b = hk := ⟨_, rfl⟩
  have hC : ∀ o1 o2, Calls Try.prog 80 #[.agg #[I l.boards, I l.rows, .slice ha l.hooks.length hc, .slice pa l.patches.length pc, .slice (some ⟨g, 0, none⟩) l.rows.toNat l.rows.toNat], I row, .agg #[I s.b, I s.d]] ((w.alloc o1).alloc o2) fun e w' => e = .returned (.agg #[I hk.lo, I hk.hi]) ∧ Below ((w.alloc o1).alloc o2).heap.size ((w.alloc o1).alloc o2) w' := by
    intro o1 o2
    rw [← hhk]
    exact hooks_any l row s ha pa hc pc g _ (H.later (((Below.refl _ _).alloc (Nat.le_refl _) _).alloc (by simp) _)) h1 h2 h3
  have HC := Lib.hid hC
  rw [hhk]
  clear hC hhk H
  go_enter Try.func66, Try.ntmps66
  go_wp2_with fail
  refine (HC.out _ _).mono ?_
  rintro e w1 ⟨rfl, hb1⟩
  have hz := hb1.size
  simp only [World.size_alloc] at hz
  go_wp2_with fail
  go_ret
  refine ⟨w1.heap.size, w.heap.size + 1, rfl, by omega, by omega, Box.new _ _ _, ?_, ?_⟩
  · exact (Box.later (Box.new' _ _ (by simp)) hb1).alloc _
  · (repeat (first | assumption | exact Below.refl _ _ | refine Below.alloc ?_ (by first | omega | (simp only [World.size_alloc]; omega) | (simp; done)) _ | refine Below.trans ?_ (Below.mono (by assumption) (by first | omega | (simp only [World.size_alloc]; omega) | (simp; done)))))

def zeroBall : Value := .agg #[I 0, I 0, .slice none 0 0, .slice none 0 0, .slice none 0 0]

theorem started_err (l : La) (s : St) (ha pa : Option Addr) (hc pc : Nat) (w : World) (H : LaneAt w l ha hc pa pc) (he : startErr l s ≠ 0) :
    Calls Try.prog 56 #[.agg #[I l.boards, I l.rows, .slice ha l.hooks.length hc, .slice pa l.patches.length pc], .agg #[I s.b, I s.d]] w fun e w' => e = .returned (.tuple #[.agg #[I 0, I 0, .slice none 0 0, .slice none 0 0, .slice none 0 0], I (startErr l s)]) ∧ Below w.heap.size w w' := by
  have hC := fun o1 o2 o3 => CheckLane_any l ha pa hc pc (((w.alloc o1).alloc o2).alloc o3) (H.below ((((Below.refl _ _).alloc (Nat.le_refl _) _).alloc (by simp) _).alloc (by simp; omega) _) (Nat.le_refl _))
  have HC := Lib.hid hC
  have HE := Lib.hid he
  clear hC H he
  by_cases hf : fault l = 0
  · have h2 : isStart l s = false := by
      cases h : isStart l s
      · rfl
      · exact absurd (by simp [startErr, hf, h]) HE.out
    have he2 : startErr l s = 2 := by simp [startErr, hf, h2]
    rw [he2]
    have H2 := Lib.hid h2
    have HF := Lib.hid hf
    clear hf h2 he2
    go_enter Try.func56, Try.ntmps56
    go_wp2_with fail
    refine Calls.mono (HC.out _ _ _) ?_
    rw [HF.out]
    rintro e w1 ⟨rfl, hb1⟩
    obtain ⟨hc1, hf1, hz1⟩ := bcell hb1
    simp only [World.size_alloc] at hz1
    have y0 := fun o => hc1 w.heap.size o (by simp; omega)
    have y1 := fun o => hc1 (w.heap.size + 1) o (by simp)
    have y2 := fun o => hc1 (w.heap.size + 1 + 1) o (by simp)
    have z2 := fun o => hf1 (w.heap.size + 1 + 1) o (by simp)
    have X2 := Lib.hid (Box.later (Box.new' (b := w.heap.size + 1 + 1) [I 0, I 0, .slice none 0 0, .slice none 0 0, .slice none 0 0] 107 (by simp)) hb1)
    have hB1 := Lib.hid (show Below w.heap.size w w1 by (repeat (first | assumption | exact Below.refl _ _ | refine Below.alloc ?_ (by first | omega | (simp only [World.size_alloc]; omega) | (simp; done)) _ | refine Below.trans ?_ (Below.mono (by assumption) (by first | omega | (simp only [World.size_alloc]; omega) | (simp; done))))))
    clear hc1 hf1
    go_wp2_with (first | (go_at_call 57; refine Calls.mono (within_any _ _ _ _) ?_; rintro e w' ⟨rfl, rfl⟩) | (go_at_call 65; refine Calls.mono (on_any _ _ _ _ _ _ _) ?_; rintro e w2 ⟨rfl, hbw2⟩; obtain ⟨hcw2, hfw2, hzw2⟩ := bcell hbw2; (try simp only [World.size_alloc] at hzw2); have := fun o => hcw2 (w.heap.size) o (by first | omega | (simp only [World.size_alloc]; omega) | (simp; done)); have := fun o => hfw2 (w.heap.size) o (by first | omega | (simp only [World.size_alloc]; omega) | (simp; done)); have := fun o => hcw2 (w.heap.size+1) o (by first | omega | (simp only [World.size_alloc]; omega) | (simp; done)); have := fun o => hfw2 (w.heap.size+1) o (by first | omega | (simp only [World.size_alloc]; omega) | (simp; done)); have := fun o => hcw2 (w.heap.size+1+1) o (by first | omega | (simp only [World.size_alloc]; omega) | (simp; done)); have := fun o => hfw2 (w.heap.size+1+1) o (by first | omega | (simp only [World.size_alloc]; omega) | (simp; done)); clear hcw2 hfw2))
    all_goals first
      | (exfalso
         have g1 : onL l s = true := by assumption
         have g2 : (!decide (-5 ≤ s.d)) = false ∧ (!decide (s.d ≤ 5)) = false := by assumption
         have g3 : isStart l s = true := by
           simp at g2; simp [onL] at g1; simp [isStart]; omega
         rw [H2.out] at g3
         cases g3)
      | (refine bodyPost_ret (res_cell_tmp rfl _ rfl ((X2.out.later hbw2).set 0 (I 0) |>.set 1 (I 0) |>.set 2 (.slice none 0 0) |>.set 3 (.slice none 0 0) |>.set 4 (.slice none 0 0)) Try.underlying107 rfl (by kernel_rfl)) rfl ⟨rfl, ?_⟩
         refine (hB1.out.trans (hbw2.mono hB1.out.size)).trans ?_
         repeat refine below_set ?_ (by omega)
         exact Below.refl _ _)
  · have he2 : startErr l s = fault l := by simp [startErr, hf]
    have hfb : (fault l != 0) = true := by simp [hf]
    rw [he2]
    have HF := Lib.hid hf
    clear hf he2
    go_enter Try.func56, Try.ntmps56
    go_wp2_with fail
    refine Calls.mono (HC.out _ _ _) ?_
    rintro e w1 ⟨rfl, hb1⟩
    obtain ⟨hc1, hf1, hz1⟩ := bcell hb1
    simp only [World.size_alloc] at hz1
    have y0 := fun o => hc1 w.heap.size o (by simp; omega)
    have y1 := fun o => hc1 (w.heap.size + 1) o (by simp)
    have y2 := fun o => hc1 (w.heap.size + 1 + 1) o (by simp)
    have z2 := fun o => hf1 (w.heap.size + 1 + 1) o (by simp)
    have X2 := Lib.hid (Box.later (Box.new' (b := w.heap.size + 1 + 1) [I 0, I 0, .slice none 0 0, .slice none 0 0, .slice none 0 0] 107 (by simp)) hb1)
    clear hc1 hf1
    go_wp2_with fail
    refine bodyPost_ret (res_cell_tmp rfl _ rfl (X2.out.set 0 (I 0) |>.set 1 (I 0) |>.set 2 (.slice none 0 0) |>.set 3 (.slice none 0 0) |>.set 4 (.slice none 0 0)) Try.underlying107 rfl (by kernel_rfl)) rfl ⟨rfl, ?_⟩
    refine (show Below w.heap.size w w1 by (repeat (first | assumption | exact Below.refl _ _ | refine Below.alloc ?_ (by first | omega | (simp only [World.size_alloc]; omega) | (simp; done)) _ | refine Below.trans ?_ (Below.mono (by assumption) (by first | omega | (simp only [World.size_alloc]; omega) | (simp; done)))))).trans ?_
    repeat refine below_set ?_ (by omega)
    exact Below.refl _ _

theorem started_ok (l : La) (s : St) (ha pa : Option Addr) (hc pc : Nat) (w : World) (H : LaneAt w l ha hc pa pc) (he : startErr l s = 0) :
    Calls Try.prog 56 #[.agg #[I l.boards, I l.rows, .slice ha l.hooks.length hc, .slice pa l.patches.length pc], .agg #[I s.b, I s.d]] w fun e w' => ∃ g : Nat, e = .returned (.tuple #[.agg #[I l.boards, I l.rows, .slice ha l.hooks.length hc, .slice pa l.patches.length pc, .slice (some ⟨g, 0, none⟩) l.rows.toNat l.rows.toNat], I 0]) ∧ w.heap.size ≤ g ∧ BallAt w' l ha hc pa pc g ∧ Below w.heap.size w w' := by
  have hf : fault l = 0 := by
    unfold startErr at he; split at he
    · omega
    · simp_all
  have hs : isStart l s = true := by
    cases h : isStart l s
    · simp [startErr, hf, h] at he
    · rfl
  have hV := fault_valid hf
  have hC := fun o1 o2 o3 => CheckLane_any l ha pa hc pc (((w.alloc o1).alloc o2).alloc o3) (H.below ((((Below.refl _ _).alloc (Nat.le_refl _) _).alloc (by simp) _).alloc (by simp; omega) _) (Nat.le_refl _))
  have HC := Lib.hid hC
  have HV := Lib.hid hV
  have HH := Lib.hid H
  have hon : onL l s = true := by simp [onL]; simp [isStart] at hs; omega
  have d1 : -5 ≤ s.d := by simp [isStart] at hs; omega
  have d2 : s.d ≤ 5 := by simp [isStart] at hs; omega
  have HF := Lib.hid hf
  clear hC H he hs hV hf
  go_enter Try.func56, Try.ntmps56
  go_wp2_with fail
  refine Calls.mono (HC.out _ _ _) ?_
  rw [HF.out]
  rintro e w1 ⟨rfl, hb1⟩
  obtain ⟨hc1, hf1, hz1⟩ := bcell hb1
  simp only [World.size_alloc] at hz1
  have y0 := fun o => hc1 w.heap.size o (by simp; omega)
  have y1 := fun o => hc1 (w.heap.size + 1) o (by simp)
  have y2 := fun o => hc1 (w.heap.size + 1 + 1) o (by simp)
  have z2 := fun o => hf1 (w.heap.size + 1 + 1) o (by simp)
  have X2 := Lib.hid (Box.later (Box.new' (b := w.heap.size + 1 + 1) [I 0, I 0, .slice none 0 0, .slice none 0 0, .slice none 0 0] 107 (by simp)) hb1)
  have hB1 := Lib.hid (show Below w.heap.size w w1 by (repeat (first | assumption | exact Below.refl _ _ | refine Below.alloc ?_ (by first | omega | (simp only [World.size_alloc]; omega) | (simp; done)) _ | refine Below.trans ?_ (Below.mono (by assumption) (by first | omega | (simp only [World.size_alloc]; omega) | (simp; done))))))
  clear hc1 hf1
  go_wp2_with (first | (go_at_call 57; refine Calls.mono (within_any _ _ _ _) ?_; rintro e w' ⟨rfl, rfl⟩) | (go_at_call 65; refine Calls.mono (on_any _ _ _ _ _ _ _) ?_; rintro e w2 ⟨rfl, hbw2⟩; obtain ⟨hcw2, hfw2, hzw2⟩ := bcell hbw2; (try simp only [World.size_alloc] at hzw2); have := fun o => hcw2 (w.heap.size) o (by first | omega | (simp only [World.size_alloc]; omega) | (simp; done)); have := fun o => hfw2 (w.heap.size) o (by first | omega | (simp only [World.size_alloc]; omega) | (simp; done)); have := fun o => hcw2 (w.heap.size+1) o (by first | omega | (simp only [World.size_alloc]; omega) | (simp; done)); have := fun o => hfw2 (w.heap.size+1) o (by first | omega | (simp only [World.size_alloc]; omega) | (simp; done)); have := fun o => hcw2 (w.heap.size+1+1) o (by first | omega | (simp only [World.size_alloc]; omega) | (simp; done)); have := fun o => hfw2 (w.heap.size+1+1) o (by first | omega | (simp only [World.size_alloc]; omega) | (simp; done)); clear hcw2 hfw2))
  have hB2 : Below w.heap.size w w2 := hB1.out.trans (hbw2.mono (by omega))
  refine Calls.mono (balls_any l ha pa hc pc _ (HH.out.below hB2 (Nat.le_refl _)) HV.out) ?_
  rintro e w3 ⟨g, rfl, hg, hball, hb3⟩
  obtain ⟨hc3, hf3, hz3⟩ := bcell hb3
  have u2 := fun o => hc3 (w.heap.size + 1 + 1) o (by omega)
  have v2 := fun o => hf3 (w.heap.size + 1 + 1) o (by omega)
  have HB := Lib.hid hball
  have X3 := Lib.hid ((X2.out.later hbw2).later hb3)
  clear hc3 hf3 hball
  go_wp2_with fail
  refine bodyPost_ret (res_cell_tmp rfl _ rfl (X3.out.set 0 (I l.boards) |>.set 1 (I l.rows) |>.set 2 (.slice ha l.hooks.length hc) |>.set 3 (.slice pa l.patches.length pc) |>.set 4 (.slice (some ⟨g, 0, none⟩) l.rows.toNat l.rows.toNat)) Try.underlying107 rfl (by kernel_rfl)) rfl ⟨g, rfl, by omega, ?_, ?_⟩
  · obtain ⟨b1, b2, cs, b3, b4⟩ := HB.out
    have hbb : Below w.heap.size w (w3.setCell ⟨w.heap.size + 1 + 1, 0, none⟩ (I l.boards) |>.setCell ⟨w.heap.size + 1 + 1, 1, none⟩ (I l.rows) |>.setCell ⟨w.heap.size + 1 + 1, 2, none⟩ (.slice ha l.hooks.length hc) |>.setCell ⟨w.heap.size + 1 + 1, 3, none⟩ (.slice pa l.patches.length pc) |>.setCell ⟨w.heap.size + 1 + 1, 4, none⟩ (.slice (some ⟨g, 0, none⟩) l.rows.toNat l.rows.toNat)) := by
      repeat refine below_set ?_ (by omega)
      exact hB2.trans (hb3.mono hB2.size)
    refine ⟨HH.out.below hbb (Nat.le_refl _), HV.out, cs, ?_, b4⟩
    exact ((((b3.other (by show w.heap.size + 1 + 1 ≠ g; omega) _).other (by show w.heap.size + 1 + 1 ≠ g; omega) _).other (by show w.heap.size + 1 + 1 ≠ g; omega) _).other (by show w.heap.size + 1 + 1 ≠ g; omega) _).other (by show w.heap.size + 1 + 1 ≠ g; omega) _
  · repeat refine below_set ?_ (by omega)
    exact hB2.trans (hb3.mono hB2.size)
end Go.Proofs.Ytcfhbnfincpehaa
