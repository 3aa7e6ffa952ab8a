/- The walks of package path: ball, hooks, started. -/
import Derived.Test.YtcfhbnfincpehaaPathB
namespace Go.Proofs.Ytcfhbnfincpehaa
open Go.RowKit Go.Shelf

theorem infoLv : (Try.prog.info? 152).map (fun i => (i.zero, i.size, i.bytes)) = some (some (.agg (Array.replicate 41 (I 0))), 41, 328) := by kernel_rfl

theorem madeLv (R : Nat) : madeCells (Value.agg (Array.replicate 41 (I 0))).cells (R * 41) = (List.replicate (R * 41) (I 0)).toArray := by
  apply Array.ext
  · simp [madeCells]
  · intro i h1 h2
    simp [madeCells, Value.cells, Nat.mod_lt]

/-- What holds while a ball's levels are laid. -/
def InBall (B : Int) (R : Nat) (hooks : List Rg) (patches : List Pa) (ha : Option Addr) (hc : Nat) (pa : Option Addr) (pc : Nat) (w : World) (g v : Nat) (f : Int → Int → Int) (wr : World) : Prop :=
  Box wr v [I B, I R, .slice ha hooks.length hc, .slice pa patches.length pc, .slice (some ⟨g, 0, none⟩) R R] ∧ Box wr w.heap.size [I B, I R, .slice ha hooks.length hc, .slice pa patches.length pc] ∧
  (∃ cs, Box wr g cs ∧ GridOf cs R f) ∧ Below w.heap.size w wr ∧ (∃ r0 r1 r2 r3 r4, Box wr (w.heap.size + 1) [r0, r1, r2, r3, r4])
theorem InBall.later {B : Int} {R : Nat} {hooks : List Rg} {patches : List Pa} {ha pa : Option Addr} {hc pc : Nat} {w wr wr' : World} {g v : Nat} {f : Int → Int → Int} (h : InBall B R hooks patches ha hc pa pc w g v f wr) (hb : Below wr.heap.size wr wr') : InBall B R hooks patches ha hc pa pc w g v f wr' := by
  obtain ⟨h1, h2, ⟨cs, h3, h4⟩, h5, r0, r1, r2, r3, r4, h6⟩ := h
  exact ⟨h1.later hb, h2.later hb, ⟨cs, h3.later hb, h4⟩, h5.trans (hb.mono h5.size), r0, r1, r2, r3, r4, h6.later hb⟩
theorem InBall.congr {B : Int} {R : Nat} {hooks : List Rg} {patches : List Pa} {ha pa : Option Addr} {hc pc : Nat} {w wr : World} {g v : Nat} {f f' : Int → Int → Int} (h : InBall B R hooks patches ha hc pa pc w g v f wr) (e : ∀ row board, f row board = f' row board) : InBall B R hooks patches ha hc pa pc w g v f' wr := by
  obtain ⟨h1, h2, ⟨cs, h3, h4⟩, h5, h6⟩ := h
  exact ⟨h1, h2, ⟨cs, h3, h4.congr e⟩, h5, h6⟩

set_option maxRecDepth 100000 in
set_option maxHeartbeats 1000000 in
theorem ball_any (B : Int) (R : Nat) (hooks : List Rg) (patches : List Pa) (ha pa : Option Addr) (hc pc : Nat) (w : World) (H : LaneAt w ⟨B, R, hooks, patches⟩ ha hc pa pc) (V : Valid ⟨B, R, hooks, patches⟩) :
    Calls Try.prog 72 #[.agg #[I B, I R, .slice ha hooks.length hc, .slice pa patches.length pc]] w fun e w' => ∃ (g : Nat) (cs : List Value), e = .returned (.agg #[I B, I R, .slice ha hooks.length hc, .slice pa patches.length pc, .slice (some ⟨g, 0, none⟩) R R]) ∧ w.heap.size ≤ g ∧ Box w' g cs ∧ GridOf cs R (levelOf patches) ∧ Below w.heap.size w w' := by
  have H2 := Lib.hid H
  have V2 := Lib.hid V
  have p5 : 1 ≤ R := by have := V.r1; simp at this; omega
  have p6 : R ≤ 12 := by have := V.r2; simp at this; omega
  have p7 : patches.length ≤ 8 := V.np
  clear H V
  obtain ⟨i, hi, hz0, hz1, hz2⟩ := info_parts infoLv
  have hmk := fun w => run_make_rowN (P := Try.prog) 105 152 i _ Try.underlying105 hi hz0 .i64 .i64 R R (Nat.le_refl _) (by rw [hz2]; omega) (by omega) w
  rw [hz1, madeLv] at hmk
  go_enter Try.func72, Try.ntmps72
  go_upto_region 1 with fail
  go_cut [3] (fun s3 wx => ∃ g v : Nat, s3 = .pointer (some ⟨v, 0, none⟩) ∧ InBall B R hooks patches ha hc pa pc w g v (levelOf []) wx ∧ w.heap.size < g ∧ w.heap.size < v ∧ v ≠ g ∧ w.heap.size + 1 ≠ g ∧ w.heap.size + 1 ≠ v)
  case first =>
    go_region
    all_goals
      go_wp2_with fail
      go_meet
    · refine ⟨w.heap.size + 1 + 1, w.heap.size + 1 + 1 + 1, rfl, ⟨?_, ?_, ⟨_, ?_, GridOf.zero R⟩, ?_, I 0, I 0, .slice none 0 0, .slice none 0 0, .slice none 0 0, ?_⟩, by omega, by omega, by omega, by omega, by omega⟩
      · exact (Box.new' _ _ (by simp)).drew
      · exact ((((Box.new' _ _ rfl).alloc _).alloc _).alloc _).drew
      · exact ((Box.new' _ _ (by simp)).alloc _).drew
      · exact (((((Below.refl _ _).alloc (Nat.le_refl _) _).alloc (by simp) _).alloc (by simp; omega) _).alloc (by simp; omega) _).drew
      · exact (((Box.new' _ _ (by simp)).alloc _).alloc _).drew
    · refine ⟨w.heap.size + 1 + 1 + 1, w.heap.size + 1 + 1, rfl, ⟨?_, ?_, ⟨_, ?_, GridOf.zero R⟩, ?_, I 0, I 0, .slice none 0 0, .slice none 0 0, .slice none 0 0, ?_⟩, by omega, by omega, by omega, by omega, by omega⟩
      · exact ((Box.new' _ _ (by simp)).alloc _).drew
      · exact ((((Box.new' _ _ rfl).alloc _).alloc _).alloc _).drew
      · exact (Box.new' _ _ (by simp)).drew
      · exact (((((Below.refl _ _).alloc (Nat.le_refl _) _).alloc (by simp) _).alloc (by simp; omega) _).alloc (by simp; omega) _).drew
      · exact (((Box.new' _ _ (by simp)).alloc _).alloc _).drew
  case rest =>
    obtain ⟨g, v, rfl, hin, n1, n2, n3, n4, n5⟩ := hcut
    have x3 := hin.2.1.cell 3 rfl
    clear hmk hz0 hz1 hz2 hi
    go_wp2_with fail
    go_loopw [16] (fun s16 wr => ∃ k : Nat, s16 = I k ∧ k ≤ patches.length ∧ InBall B R hooks patches ha hc pa pc w g v (levelOf (patches.take k)) wr) (fun i _ => patches.length - (intOf i).toNat)
    case atStart => exact ⟨0, rfl, by omega, hin⟩
    case round =>
      clear hin x3
      obtain ⟨k, rfl, hk, hin⟩ := hrel
      by_cases hlt : k < patches.length
      · obtain ⟨b, o, rfl, hbl, hce⟩ := (H2.out.2.below hin.2.2.2.1 (Nat.le_refl _)).rec 5 encPa_len (by decide) k hlt
        have c0 := hce 0 _ rfl
        have c1 := hce 1 _ rfl
        have c2 := hce 2 _ rfl
        have c3 := hce 3 _ rfl
        have c4 := hce 4 _ rfl
        rw [Nat.add_zero] at c0
        clear hce
        obtain ⟨wo, rfl⟩ : ∃ wo : World, wo = wr := ⟨_, rfl⟩
        obtain ⟨p, hp⟩ : ∃ p, patches[k] = p := ⟨_, rfl⟩
        have vp := V2.out.pk p (by rw [← hp]; simp)
        simp only [hp] at c0 c1 c2 c3 c4
        have HP := Lib.hid hp
        clear hp
        obtain ⟨⟨q1, q2, q3⟩, ⟨q4, q5, q6⟩, q7, q8⟩ := vp
        have q9 : B ≤ 40 := V2.out.b2
        simp only at q3 q6
        have hg1 := hin.1.lt
        have hg2 : g < wo.heap.size := by obtain ⟨_, _, ⟨_, h, _⟩, _⟩ := hin; exact h.lt
        go_wp2_with fail
        go_loopw [6, 7] (fun s6 s7 wq => ∃ r : Nat, s6 = I r ∧ p.rows.lo ≤ r ∧ r ≤ p.rows.hi + 1 ∧ InBall B R hooks patches ha hc (some ⟨b, o, none⟩) pc w g v (painted (patches.take k) p r p.boards.lo) wq ∧ Box wq wo.heap.size [I p.rows.lo, I p.rows.hi, I p.boards.lo, I p.boards.hi, I p.level]) (fun s6 _ _ => (p.rows.hi + 1 - intOf s6).toNat)
        case atStart =>
          refine ⟨p.rows.lo.toNat, by go_num, by omega, by omega, ?_, Box.new _ _ _⟩
          refine (hin.later ((Below.refl _ _).alloc (Nat.le_refl _) _)).congr fun row board => ?_
          rw [show ((p.rows.lo.toNat : Nat) : Int) = p.rows.lo by omega, painted_start]
        case round =>
          obtain ⟨r, rfl, hr1, hr2, hin2, hpb⟩ := hrel
          have b0 := hpb.cell 0 rfl
          have b1 := hpb.cell 1 rfl
          have b2 := hpb.cell 2 rfl
          have b3 := hpb.cell 3 rfl
          by_cases hlr : (r : Int) ≤ p.rows.hi
          · go_wp2_with fail
            go_loopw [7] (fun s7 ws => ∃ c : Nat, s7 = I c ∧ p.boards.lo ≤ c ∧ c ≤ p.boards.hi + 1 ∧ InBall B R hooks patches ha hc (some ⟨b, o, none⟩) pc w g v (painted (patches.take k) p r c) ws ∧ Box ws wo.heap.size [I p.rows.lo, I p.rows.hi, I p.boards.lo, I p.boards.hi, I p.level]) (fun s7 _ => (p.boards.hi + 1 - intOf s7).toNat)
            case atStart =>
              refine ⟨p.boards.lo.toNat, by go_num, by omega, by omega, ?_, hpb⟩
              rw [show ((p.boards.lo.toNat : Nat) : Int) = p.boards.lo by omega]
              exact hin2
            case round =>
              clear b0 b1 b2 b3
              obtain ⟨c, rfl, hc1, hc2, hin3, hpb3⟩ := hrel
              have b2 := hpb3.cell 2 rfl
              have b3 := hpb3.cell 3 rfl
              have b4 := hpb3.cell 4 rfl
              by_cases hlc : (c : Int) ≤ p.boards.hi
              · have hin3' := hin3
                obtain ⟨i1, i2, ⟨cs, i3, i4⟩, i5, i6⟩ := hin3'
                have v4 := i1.cell 4 rfl
                have gc := i3.cell (r * 41 + c) (i4.2 r c (by omega) (by omega))
                have gf := i3.free (r * 41 + c)
                clear i1 i2 i4 i5 i6
                have hst := fun (W : World) => painted_step (patches.take k) p r c (by simp [inR]; omega) (by simp [inR]; omega)
                have HST := Lib.hid hst
                clear hst
                go_wp2_with fail
                go_region
                go_wp2_with fail
                go_roundw
                case rel =>
                  refine ⟨c + 1, by go_num, by omega, by omega, ?_, (hpb3.other (by show g ≠ _; omega) _).drew⟩
                  obtain ⟨i1, i2, ⟨cs, i3, i4⟩, i5, r0', r1', r2', r3', r4', i6⟩ := hin3
                  refine ⟨(i1.other (by show g ≠ v; omega) _).drew, (i2.other (by show g ≠ _; omega) _).drew, ⟨_, (i3.set _ _).drew, ?_⟩, (i5.setCell (by show _ ≤ g; omega) _).drew, _, _, _, _, _, (i6.other (by show g ≠ _; omega) _).drew⟩
                  refine (i4.set r c (by omega) (by omega) p.level).congr fun row board => ?_
                  have := HST.out w row board
                  simpa using this.symm
                case measure => simp [intOf]; omega
              · go_wp2_with fail
                go_roundw
                case rel =>
                  refine ⟨r + 1, by go_num, by omega, by omega, ?_, hpb3⟩
                  exact hin3.congr fun row board => painted_row _ _ _ _ (by omega) row board
                case measure => simp [intOf]; omega
          · go_wp2_with fail
            go_roundw
            case rel =>
              refine ⟨k + 1, by go_num, by omega, ?_⟩
              refine hin2.congr fun row board => ?_
              rw [painted_end _ _ _ _ (by omega), List.take_succ_eq_append_getElem hlt, HP.out]
            case measure => simp [intOf]; omega
      · obtain ⟨i1, i2, ⟨cs, i3, i4⟩, i5, r0', r1', r2', r3', r4', i6⟩ := hin
        have v0 := i1.cell 0 rfl
        have v1 := i1.cell 1 rfl
        have v2 := i1.cell 2 rfl
        have v3 := i1.cell 3 rfl
        have v4 := i1.cell 4 rfl
        have y0 := i6.cell 0 rfl
        have y1 := i6.cell 1 rfl
        have y2 := i6.cell 2 rfl
        have y3 := i6.cell 3 rfl
        have y4 := i6.cell 4 rfl
        have f0 := i6.free 0
        have f1 := i6.free 1
        have f2 := i6.free 2
        have f3 := i6.free 3
        have f4 := i6.free 4
        rw [List.take_of_length_le (by omega)] at i4
        go_wp2_with fail
        refine bodyPost_ret (v := .agg #[I B, I R, .slice ha hooks.length hc, .slice pa patches.length pc, .slice (some ⟨g, 0, none⟩) R R]) ?_ rfl ⟨g, cs, rfl, by omega, ?_, i4, ?_⟩
        · simp [results, Try.results72, go_sem, y0, y1, y2, y3, y4]
        · exact ((((i3.other (by simp; omega) _).other (by simp; omega) _).other (by simp; omega) _).other (by simp; omega) _).other (by simp; omega) _
        · exact ((((i5.setCell (by simp) _).setCell (by simp) _).setCell (by simp) _).setCell (by simp) _).setCell (by simp) _
end Go.Proofs.Ytcfhbnfincpehaa
