/- Own texts, laid together: W7 W8 W9 X1 X2 X3 X4 X5. Nothing is asked. -/
import Derived.Test.YtcfhbnfincpehaaB5
import Derived.Test.YtcfhbnfincpehaaB2
import Derived.Test.YtcfhbnfincpehaaB4
import Derived.Lib.SmallJoins
set_option linter.unusedSimpArgs false
set_option linter.unusedVariables false
/- Walks of package path: Turn. -/
namespace Go.Proofs.Ytcfhbnfincpehaa
open Go.RowKit Go.Shelf

theorem least_jx (x y : Int) (b : Nat) : Cx Try.prog 67 [.slice (some ⟨b, 0, none⟩) 2 2] [bx b [I x, I y]] KTrue (fun _ : Unit => I (min x y)) (fun _ => [bx b [I x, I y]]) (fun _ => KTrue) :=
  Cx_same fun w h => by
    have hb : Box w b [I x, I y] := (h (bx b [I x, I y]) (by simp)).now
    exact least_two x y b w (hb.cell 0 rfl) (hb.cell 1 rfl)
theorem greatest_jx (x y : Int) (b : Nat) : Cx Try.prog 68 [.slice (some ⟨b, 0, none⟩) 2 2] [bx b [I x, I y]] KTrue (fun _ : Unit => I (max x y)) (fun _ => [bx b [I x, I y]]) (fun _ => KTrue) :=
  Cx_same fun w h => by
    have hb : Box w b [I x, I y] := (h (bx b [I x, I y]) (by simp)).now
    exact greatest_two x y b w (hb.cell 0 rfl) (hb.cell 1 rfl)

def widen (o r : Rg) : Rg := ⟨min o.lo r.lo, max o.hi r.hi⟩
/-- The range of the greatest boards from a state on: n rows before the last one. -/
def turnN (l : La) : Nat → Int → St → Rg
  | 0, _, s => if onL l s = true then ⟨s.b, s.b⟩ else ⟨0, 0⟩
  | n + 1, row, s => if onL l s = true then
      let o := ((stepsOf l row s).map (turnN l n (row + 1))).foldl widen ⟨40, 0⟩
      ⟨max o.lo s.b, max o.hi s.b⟩ else ⟨0, 0⟩
def GoodT (l : La) (m : Int × St → Option Rg) : Prop := ∀ k v, m k = some v → v = turnN l (l.rows - 1 - k.1).toNat k.1 k.2
abbrev MemoT (l : La) := { m : Int × St → Option Rg // GoodT l m }
abbrev vR : Rg → Value := fun r => .agg #[I r.lo, I r.hi]
theorem GoodT.upd {l : La} {m : Int × St → Option Rg} (h : GoodT l m) {row : Int} {s : St} {v : Rg} (hv : v = turnN l (l.rows - 1 - row).toNat row s) : GoodT l (Go.Proofs.Ytcfhbnfincpehaa.upd m (row, s) v) := by
  intro k u hu
  by_cases e : k = (row, s)
  · subst e; simp [Go.Proofs.Ytcfhbnfincpehaa.upd] at hu; rw [← hu, hv]
  · simp [Go.Proofs.Ytcfhbnfincpehaa.upd, e] at hu; exact h k u hu

set_option maxRecDepth 100000 in
theorem turn1_j (l : La) (ha pa : Option Addr) (hc pc g bb bk bf mk : Nat) (V : Valid l) :
    ∀ (n : Nat) (row : Int) (s : St) (m : MemoT l), row + n = l.rows - 1 → 0 ≤ row → -5 ≤ s.d → s.d ≤ 5 →
      Cx Try.prog 64 [I row, .agg #[I s.b, I s.d], pt bb, pt bk, pt bf] [mp mk ekSp vR m.1] (KAnd (KBox bb [I l.boards, I l.rows, .slice ha l.hooks.length hc, .slice pa l.patches.length pc, .slice (some ⟨g, 0, none⟩) l.rows.toNat l.rows.toNat]) (KAnd (KBox bk [.map (some mk)]) (KAnd (KBox bf [.func (.func 64) #[] #[pt bb, pt bk, pt bf]]) (KBall l ha hc pa pc g))))
        (fun _ : MemoT l => .agg #[I (turnN l n row s).lo, I (turnN l n row s).hi]) (fun m' => [mp mk ekSp vR m'.1]) (fun _ => KTrue) := by
  intro n
  induction n with
  | zero =>
    intro row s m hn h0 d1 d2
    have r2 := V.r2
    refine Cx_of Try.func64 rfl Try.ntmps64 rfl fun w0 M0 => ?_
    refine JC_seq ?_
    refine JC_region ?_
    refine JL_step rfl rfl rfl (jo_box rfl rfl) fun b5 => ?_
    refine JL_step rfl rfl rfl (jo_box rfl rfl) fun b6 => ?_
    refine JL_step rfl rfl rfl (jo_alloc0 Try.zeroValue49 rfl) fun b7 => ?_
    refine JL_nil ?_
    refine JE_seq ?_
    refine JC_seq ?_
    refine JC_seq ?_
    refine JC_region ?_
    refine JL_pd rfl (det_fieldAddr rfl fo_107_0) ?_
    refine JL_dt rfl (det_loadKA rfl Try.isAgg37 Try.sizeOf37 rfl rfl) ?_
    refine JL_dt rfl (det_loadKA rfl Try.isAgg39 Try.sizeOf39 rfl rfl) ?_
    -- stop: op  3 t16 := (call (Call (value f65) (t14 t15) (37 39)))   <1 2>   184
    refine JL_step rfl rfl rfl (jo_callv rfl rfl Try.call65 rfl (on_j l ha pa hc pc s)) fun _ => ?_
    refine JL_pd rfl (det_not rfl) ?_
    refine JL_nil ?_
    refine JE_seq ?_
    -- stop: cond
    refine JC_cond rfl (fun hon => ?_) (fun hon => ?_)
    · refine JC_seq ?_
      refine JC_region ?_
      refine JL_pd rfl (det_build rfl (bld_49)) ?_
      refine JL_step0 rfl rfl (jo_store rfl rfl rfl (by first | (simp only [splice_norm]; done) | (simp only [splice_norm]; rfl) | rfl) Try.sizeOf49 rfl rfl) fun _ => ?_
      refine JL_nil ?_
      refine JE_seq ?_
      refine JC_ret ?_
      refine JE_seq_ret ?_
      -- stop: out
      simp only [Bool.not_eq_true'] at hon
      refine JE_out (.inl rfl) m (results1 Try.results64 (res_box rfl Try.isAgg49 Try.sizeOf49 rfl)) (by simp [turnN, hon]) pick_perm (fun _ _ => trivial)
    · refine JC_skip ?_
      refine JE_seq ?_
      refine JC_seq ?_
      refine JC_region ?_
      refine JL_dt rfl (det_loadK rfl Try.isAgg121 rfl) ?_
      refine JL_dt rfl (det_loadK rfl Try.isAgg3 rfl) ?_
      refine JL_dt rfl (det_loadKA rfl Try.isAgg39 Try.sizeOf39 rfl rfl) ?_
      refine JL_pd rfl (det_build rfl (bld_126_0_1 _ _ _)) ?_
      -- stop: op  4 t24 := (lookup 121 t20 t23 true)   <0 3>   187
      simp only [Bool.not_eq_false'] at hon
      have hres : turnN l 0 row s = ⟨s.b, s.b⟩ := by simp [turnN, hon]
      rcases hmk : m.1 (row, s) with _ | v
      · skip
        refine JL_dt rfl (det_lookup2N hmk rfl rfl goodSp Try.underlying121 Try.zeroValue49) ?_
        refine JL_pd rfl (det_move rfl) ?_
        refine JL_pd rfl (det_extract rfl rfl) ?_
        refine JL_pd rfl (det_extract rfl rfl) ?_
        refine JL_step rfl rfl rfl (jo_alloc0 Try.zeroValue49 rfl) fun b8 => ?_
        refine JL_step0 rfl rfl (jo_store rfl rfl rfl (by first | (simp only [splice_norm]; done) | (simp only [splice_norm]; rfl) | rfl) Try.sizeOf49 rfl rfl) fun _ => ?_
        refine JL_pd rfl (det_assign rfl) ?_
        refine JL_nil ?_
        refine JE_seq ?_
        refine JC_seq ?_
        refine JC_seq ?_
        refine JC_region ?_
        refine JL_pd rfl (det_move rfl) ?_
        refine JL_nil ?_
        refine JE_seq ?_
        -- stop: cond
        refine JC_cond rfl (fun hno => ?_) (fun hno => ?_)
        · refine JC_seq ?_
          refine JC_region ?_
          refine JL_dt rfl (det_loadKA rfl Try.isAgg49 Try.sizeOf49 rfl rfl) ?_
          refine JL_step0 rfl rfl (jo_store rfl rfl rfl (by first | (simp only [splice_norm]; done) | (simp only [splice_norm]; rfl) | rfl) Try.sizeOf49 rfl rfl) fun _ => ?_
          refine JL_nil ?_
          refine JE_seq ?_
          refine JC_ret ?_
          refine JE_seq_ret ?_
          -- stop: out
          cases hno
        · refine JC_skip ?_
          refine JE_seq ?_
          refine JC_seq ?_
          refine JC_seq ?_
          refine JC_region ?_
          refine JL_dt rfl (det_loadK rfl Try.isAgg3 rfl) ?_
          refine JL_pd rfl (det_fieldAddr rfl fo_107_0) ?_
          refine JL_pd rfl (det_fieldAddr rfl fo_37_1) ?_
          refine JL_dt rfl (det_loadK rfl Try.isAgg3 rfl) ?_
          refine JL_pd rfl (det_sub rfl rfl ⟨by omega, by omega⟩) ?_
          refine JL_pd rfl (det_eql rfl rfl) ?_
          refine JL_nil ?_
          refine JE_seq ?_
          -- stop: cond
          -- stop: cond
          refine JC_if rfl (fun hl => ?_) (fun hl => ?_)
          · refine JC_seq ?_
            refine JC_region ?_
            refine JL_pd rfl (det_fieldAddr rfl fo_39_0) ?_
            refine JL_dt rfl (det_loadK rfl Try.isAgg3 rfl) ?_
            refine JL_pd rfl (det_fieldAddr rfl fo_39_0) ?_
            refine JL_dt rfl (det_loadK rfl Try.isAgg3 rfl) ?_
            refine JL_pd rfl (det_build rfl (bld_49_0_1 _ _)) ?_
            refine JL_step0 rfl rfl (jo_store rfl rfl rfl (by first | (simp only [splice_norm]; done) | (simp only [splice_norm]; rfl) | rfl) Try.sizeOf49 rfl rfl) fun _ => ?_
            refine JL_nil ?_
            refine JE_seq ?_
            refine JC_ret ?_
            refine JE_seq_ret ?_
            -- stop: out
            refine JE_out (.inl rfl) m (results1 Try.results64 (res_box rfl Try.isAgg49 Try.sizeOf49 rfl)) (by rw [hres]) pick_perm (fun _ _ => trivial)
          · refine JC_skip ?_
            refine JE_seq ?_
            refine JC_seq ?_
            refine JC_region ?_
            refine JL_pd rfl (det_build rfl (bld_49_0_1 _ _)) ?_
            refine JL_step0 rfl rfl (jo_store rfl rfl rfl (by first | (simp only [splice_norm]; done) | (simp only [splice_norm]; rfl) | rfl) Try.sizeOf49 rfl rfl) fun _ => ?_
            refine JL_nil ?_
            refine JE_seq ?_
            refine JC_seq ?_
            refine JC_seq ?_
            refine JC_region ?_
            refine JL_dt rfl (det_loadKA rfl Try.isAgg107 Try.sizeOf107 rfl rfl) ?_
            refine JL_dt rfl (det_loadK rfl Try.isAgg3 rfl) ?_
            refine JL_dt rfl (det_loadKA rfl Try.isAgg39 Try.sizeOf39 rfl rfl) ?_
            -- stop: op  3 t44 := (call (Call (value f66) (t41 t42 t43) (107 3 39)))   <0 1 2>   195
            omega
      · skip
        refine JL_dt rfl (det_lookup2S hmk rfl rfl goodSp Try.underlying121 Try.zeroValue49) ?_
        refine JL_pd rfl (det_move rfl) ?_
        refine JL_pd rfl (det_extract rfl rfl) ?_
        refine JL_pd rfl (det_extract rfl rfl) ?_
        refine JL_step rfl rfl rfl (jo_alloc0 Try.zeroValue49 rfl) fun b8 => ?_
        refine JL_step0 rfl rfl (jo_store rfl rfl rfl (by first | (simp only [splice_norm]; done) | (simp only [splice_norm]; rfl) | rfl) Try.sizeOf49 rfl rfl) fun _ => ?_
        refine JL_pd rfl (det_assign rfl) ?_
        refine JL_nil ?_
        refine JE_seq ?_
        refine JC_seq ?_
        refine JC_seq ?_
        refine JC_region ?_
        refine JL_pd rfl (det_move rfl) ?_
        refine JL_nil ?_
        refine JE_seq ?_
        -- stop: cond
        refine JC_cond rfl (fun hno => ?_) (fun hno => ?_)
        · refine JC_seq ?_
          refine JC_region ?_
          refine JL_dt rfl (det_loadKA rfl Try.isAgg49 Try.sizeOf49 rfl rfl) ?_
          refine JL_step0 rfl rfl (jo_store rfl rfl rfl (by first | (simp only [splice_norm]; done) | (simp only [splice_norm]; rfl) | rfl) Try.sizeOf49 rfl rfl) fun _ => ?_
          refine JL_nil ?_
          refine JE_seq ?_
          refine JC_ret ?_
          refine JE_seq_ret ?_
          -- stop: out
          refine JE_out (.inl rfl) m (results1 Try.results64 (res_box rfl Try.isAgg49 Try.sizeOf49 rfl)) (by rw [m.2 _ _ hmk]; rw [show (l.rows - 1 - (row, s).1).toNat = 0 from by show (l.rows - 1 - row).toNat = _; omega]) pick_perm (fun _ _ => trivial)
        · refine JC_skip ?_
          refine JE_seq ?_
          refine JC_seq ?_
          refine JC_seq ?_
          refine JC_region ?_
          refine JL_dt rfl (det_loadK rfl Try.isAgg3 rfl) ?_
          refine JL_pd rfl (det_fieldAddr rfl fo_107_0) ?_
          refine JL_pd rfl (det_fieldAddr rfl fo_37_1) ?_
          refine JL_dt rfl (det_loadK rfl Try.isAgg3 rfl) ?_
          refine JL_pd rfl (det_sub rfl rfl ⟨by omega, by omega⟩) ?_
          refine JL_pd rfl (det_eql rfl rfl) ?_
          refine JL_nil ?_
          refine JE_seq ?_
          -- stop: cond
          cases hno
  | succ n IH =>
    intro row s m hn h0 d1 d2
    have r2 := V.r2
    have hrw : (l.rows - 1 - row).toNat = n + 1 := by omega
    refine Cx_of Try.func64 rfl Try.ntmps64 rfl fun w0 M0 => ?_
    refine JC_seq ?_
    refine JC_region ?_
    refine JL_step rfl rfl rfl (jo_box rfl rfl) fun b5 => ?_
    refine JL_step rfl rfl rfl (jo_box rfl rfl) fun b6 => ?_
    refine JL_step rfl rfl rfl (jo_alloc0 Try.zeroValue49 rfl) fun b7 => ?_
    refine JL_nil ?_
    refine JE_seq ?_
    refine JC_seq ?_
    refine JC_seq ?_
    refine JC_region ?_
    refine JL_pd rfl (det_fieldAddr rfl fo_107_0) ?_
    refine JL_dt rfl (det_loadKA rfl Try.isAgg37 Try.sizeOf37 rfl rfl) ?_
    refine JL_dt rfl (det_loadKA rfl Try.isAgg39 Try.sizeOf39 rfl rfl) ?_
    -- stop: op  3 t16 := (call (Call (value f65) (t14 t15) (37 39)))   <1 2>   184
    refine JL_step rfl rfl rfl (jo_callv rfl rfl Try.call65 rfl (on_j l ha pa hc pc s)) fun _ => ?_
    refine JL_pd rfl (det_not rfl) ?_
    refine JL_nil ?_
    refine JE_seq ?_
    -- stop: cond
    refine JC_cond rfl (fun hon => ?_) (fun hon => ?_)
    · refine JC_seq ?_
      refine JC_region ?_
      refine JL_pd rfl (det_build rfl (bld_49)) ?_
      refine JL_step0 rfl rfl (jo_store rfl rfl rfl (by first | (simp only [splice_norm]; done) | (simp only [splice_norm]; rfl) | rfl) Try.sizeOf49 rfl rfl) fun _ => ?_
      refine JL_nil ?_
      refine JE_seq ?_
      refine JC_ret ?_
      refine JE_seq_ret ?_
      -- stop: out
      simp only [Bool.not_eq_true'] at hon
      refine JE_out (.inl rfl) m (results1 Try.results64 (res_box rfl Try.isAgg49 Try.sizeOf49 rfl)) (by simp [turnN, hon]) pick_perm (fun _ _ => trivial)
    · refine JC_skip ?_
      refine JE_seq ?_
      refine JC_seq ?_
      refine JC_region ?_
      refine JL_dt rfl (det_loadK rfl Try.isAgg121 rfl) ?_
      refine JL_dt rfl (det_loadK rfl Try.isAgg3 rfl) ?_
      refine JL_dt rfl (det_loadKA rfl Try.isAgg39 Try.sizeOf39 rfl rfl) ?_
      refine JL_pd rfl (det_build rfl (bld_126_0_1 _ _ _)) ?_
      -- stop: op  4 t24 := (lookup 121 t20 t23 true)   <0 3>   187
      simp only [Bool.not_eq_false'] at hon
      rcases hmk : m.1 (row, s) with _ | v
      · skip
        refine JL_dt rfl (det_lookup2N hmk rfl rfl goodSp Try.underlying121 Try.zeroValue49) ?_
        refine JL_pd rfl (det_move rfl) ?_
        refine JL_pd rfl (det_extract rfl rfl) ?_
        refine JL_pd rfl (det_extract rfl rfl) ?_
        refine JL_step rfl rfl rfl (jo_alloc0 Try.zeroValue49 rfl) fun b8 => ?_
        refine JL_step0 rfl rfl (jo_store rfl rfl rfl (by first | (simp only [splice_norm]; done) | (simp only [splice_norm]; rfl) | rfl) Try.sizeOf49 rfl rfl) fun _ => ?_
        refine JL_pd rfl (det_assign rfl) ?_
        refine JL_nil ?_
        refine JE_seq ?_
        refine JC_seq ?_
        refine JC_seq ?_
        refine JC_region ?_
        refine JL_pd rfl (det_move rfl) ?_
        refine JL_nil ?_
        refine JE_seq ?_
        -- stop: cond
        refine JC_cond rfl (fun hno => ?_) (fun hno => ?_)
        · refine JC_seq ?_
          refine JC_region ?_
          refine JL_dt rfl (det_loadKA rfl Try.isAgg49 Try.sizeOf49 rfl rfl) ?_
          refine JL_step0 rfl rfl (jo_store rfl rfl rfl (by first | (simp only [splice_norm]; done) | (simp only [splice_norm]; rfl) | rfl) Try.sizeOf49 rfl rfl) fun _ => ?_
          refine JL_nil ?_
          refine JE_seq ?_
          refine JC_ret ?_
          refine JE_seq_ret ?_
          -- stop: out
          cases hno
        · refine JC_skip ?_
          refine JE_seq ?_
          refine JC_seq ?_
          refine JC_seq ?_
          refine JC_region ?_
          refine JL_dt rfl (det_loadK rfl Try.isAgg3 rfl) ?_
          refine JL_pd rfl (det_fieldAddr rfl fo_107_0) ?_
          refine JL_pd rfl (det_fieldAddr rfl fo_37_1) ?_
          refine JL_dt rfl (det_loadK rfl Try.isAgg3 rfl) ?_
          refine JL_pd rfl (det_sub rfl rfl ⟨by omega, by omega⟩) ?_
          refine JL_pd rfl (det_eql rfl rfl) ?_
          refine JL_nil ?_
          refine JE_seq ?_
          -- stop: cond
          -- stop: cond
          refine JC_if rfl (fun hl => ?_) (fun hl => ?_)
          · refine JC_seq ?_
            refine JC_region ?_
            refine JL_pd rfl (det_fieldAddr rfl fo_39_0) ?_
            refine JL_dt rfl (det_loadK rfl Try.isAgg3 rfl) ?_
            refine JL_pd rfl (det_fieldAddr rfl fo_39_0) ?_
            refine JL_dt rfl (det_loadK rfl Try.isAgg3 rfl) ?_
            refine JL_pd rfl (det_build rfl (bld_49_0_1 _ _)) ?_
            refine JL_step0 rfl rfl (jo_store rfl rfl rfl (by first | (simp only [splice_norm]; done) | (simp only [splice_norm]; rfl) | rfl) Try.sizeOf49 rfl rfl) fun _ => ?_
            refine JL_nil ?_
            refine JE_seq ?_
            refine JC_ret ?_
            refine JE_seq_ret ?_
            -- stop: out
            omega
          · refine JC_skip ?_
            refine JE_seq ?_
            refine JC_seq ?_
            refine JC_region ?_
            refine JL_pd rfl (det_build rfl (bld_49_0_1 _ _)) ?_
            refine JL_step0 rfl rfl (jo_store rfl rfl rfl (by first | (simp only [splice_norm]; done) | (simp only [splice_norm]; rfl) | rfl) Try.sizeOf49 rfl rfl) fun _ => ?_
            refine JL_nil ?_
            refine JE_seq ?_
            refine JC_seq ?_
            refine JC_seq ?_
            refine JC_region ?_
            refine JL_dt rfl (det_loadKA rfl Try.isAgg107 Try.sizeOf107 rfl rfl) ?_
            refine JL_dt rfl (det_loadK rfl Try.isAgg3 rfl) ?_
            refine JL_dt rfl (det_loadKA rfl Try.isAgg39 Try.sizeOf39 rfl rfl) ?_
            -- stop: op  3 t44 := (call (Call (value f66) (t41 t42 t43) (107 3 39)))   <0 1 2>   195
            refine JL_step rfl rfl rfl (jo_callx rfl rfl Try.call66 rfl (follow_j l row s ha pa hc pc g h0 (by omega) hon) ((List.Perm.refl _))) fun ⟨hb, sb⟩ => ?_
            refine JL_nil ?_
            refine JE_seq ?_
            refine JC_block ?_
            -- stop: rangeFunc
            have Hhk := hookOf_bd V row s.b
            have hlb : 1 ≤ s.b ∧ s.b ≤ l.boards := by simpa [onL] using hon
            have hb2 := V.b2
            refine JC_range (γ := MemoT l × Rg) (β := Nat) rfl rfl rfl rfl enter_follow (perm2 (mp mk ekSp vR m.1) (bx b8 [I 40, I 0])) (encTl (hk := hookOf l row s.b) (s := s))
              (fun xs => xs.map (fun x => x.1.1) = turnsOf (hookOf l row s.b)) (fun pre => ∃ k, k ≤ (turnsOf (hookOf l row s.b)).length ∧ pre.map (fun x => x.1.1) = (turnsOf (hookOf l row s.b)).take k) (turnsOf (hookOf l row s.b)).length [hb, sb]
              (fun w hD _ => follow_stops (hookOf l row s.b) s hb sb w Hhk.1 Hhk.2.2 d1 d2 (by omega) (by omega) (BoxK.know (R := saysAll _) (b := hb) w hD) (BoxK.know (R := saysAll _) (b := sb) w hD)) ?_ (fun _ => rfl) ?_
              (fun pre q => q.2 = (pre.map (fun x => turnN l n (row + 1) x.1.2)).foldl widen ⟨40, 0⟩) (fun _ _ _ => False)
              (fun q => [mp mk ekSp vR q.1.1, bx b8 [I q.2.lo, I q.2.hi]]) (m, ⟨40, 0⟩) ?_ rfl ?_ ?_ (fun x t => [(11, pt t), (2, pt bb), (3, pt bk), (4, pt bf), (5, pt b5), (6, pt b6), (8, pt b8)]) (fun x t => [bx t [I x.1.2.b, I x.1.2.d]]) ?_ ?_ ?_ ?_ ?_
            · intro b hb'; simp only [List.mem_cons, List.not_mem_nil, or_false] at hb'; rcases hb' with rfl | rfl
              · exact ⟨bx b [I (hookOf l row s.b).lo, I (hookOf l row s.b).hi], by simp, rfl⟩
              · exact ⟨bx b [I s.b, I s.d], by simp, rfl⟩
            · show ∀ p ∈ [45, 46], p < 84
              decide
            · rfl
            · rintro pre q _ c hc b hb
              simp only [List.mem_cons, List.not_mem_nil, or_false] at hc
              rcases hc with rfl | rfl
              · exact ⟨mp mk ekSp vR m.1, by simp, hb⟩
              · exact ⟨bx b8 [I 40, I 0], by simp, hb⟩
            · exact fun _ _ _ h => h.elim
            · intro x t c hc; simp only [List.mem_cons, List.not_mem_nil, or_false] at hc; subst hc; exact bx_cellish _ _
            · intro l' x W K0 hK0
              refine JC_region ?_
              refine JL_step rfl rfl rfl (jo_alloc0 Try.zeroValue39 rfl) fun b11 => ?_
              refine JL_step0 rfl rfl (jo_store rfl rfl rfl (by first | (simp only [splice_norm]; done) | (simp only [splice_norm]; rfl) | rfl) Try.sizeOf39 rfl rfl) fun _ => ?_
              refine JL_nil ?_
              -- stop: end
              exact JE_asg (hK0 b11) (stsub_cons rfl (stsub_cons rfl (stsub_cons rfl (stsub_cons rfl (stsub_cons rfl (stsub_cons rfl (stsub_cons rfl stsub_nil))))))) (hsub_cons hsub_nil) (fun _ h => trivial)
            · rintro l' pre x ⟨m1, o⟩ t W K1 QX hI hlen hK hX
              dsimp only at hI ⊢
              refine JC_block ?_
              refine JC_seq ?_
              refine JC_region ?_
              refine JL_dt rfl (det_loadK rfl Try.isAgg122 rfl) ?_
              refine JL_dt rfl (det_loadK rfl Try.isAgg3 rfl) ?_
              refine JL_pd rfl (det_add rfl rfl ⟨by omega, by omega⟩) ?_
              refine JL_dt rfl (det_loadKA rfl Try.isAgg39 Try.sizeOf39 rfl rfl) ?_
              -- stop: op  4 t51 := (call (Call (value t47) (t49 t50) (3 39)))   <0 2 3>   196
              refine JL_step rfl rfl rfl (jo_callx rfl rfl Try.call64 rfl (IH (row + 1) x.1.2 m1 (by omega) (by omega) (by rw [x.2.2.2]; exact (nextS_d _ _).1) (by rw [x.2.2.2]; exact (nextS_d _ _).2)) (pick_perm)) fun m2 => ?_
              refine JL_step rfl rfl rfl (jo_alloc0 Try.zeroValue49 rfl) fun b12 => ?_
              refine JL_step0 rfl rfl (jo_store rfl rfl rfl (by first | (simp only [splice_norm]; done) | (simp only [splice_norm]; rfl) | rfl) Try.sizeOf49 rfl rfl) fun _ => ?_
              refine JL_nil ?_
              refine JE_seq ?_
              refine JC_draw [13] (by kernel_rfl) ?_
              refine JA_pd (i := 0) rfl (by kernel_rfl) rfl rfl (det_fieldAddr rfl fo_49_0) ?_
              refine JA_dt (i := 1) rfl (by kernel_rfl) (by kernel_rfl) rfl rfl (det_loadK rfl Try.isAgg3 rfl) ?_
              refine JA_pd (i := 2) rfl (by kernel_rfl) rfl rfl (det_fieldAddr rfl fo_49_0) ?_
              refine JA_dt (i := 3) rfl (by kernel_rfl) (by kernel_rfl) rfl rfl (det_loadK rfl Try.isAgg3 rfl) ?_
              refine JA_pd (i := 6) rfl (by kernel_rfl) rfl rfl (det_fieldAddr rfl fo_49_1) ?_
              refine JA_dt (i := 7) rfl (by kernel_rfl) (by kernel_rfl) rfl rfl (det_loadK rfl Try.isAgg3 rfl) ?_
              refine JA_pd (i := 8) rfl (by kernel_rfl) rfl rfl (det_fieldAddr rfl fo_49_1) ?_
              refine JA_dt (i := 9) rfl (by kernel_rfl) (by kernel_rfl) rfl rfl (det_loadK rfl Try.isAgg3 rfl) ?_
              -- stop: multi [4, 10]
              have hI2 : widen o (turnN l n (row + 1) x.1.2) = ((pre ++ [x]).map (fun x => turnN l n (row + 1) x.1.2)).foldl widen ⟨40, 0⟩ := by
                rw [List.map_append, List.foldl_append, ← hI]; rfl
              refine JA_ready (rs := [4, 10]) (by kernel_rfl) rfl ?_
              refine JAl_cons (i := 4) rfl rfl (jo_buildSlice rfl (bsl_75_2_0_1 _ _)) (fun _ => ⟨hsub_drop 1 rfl, fun _ h => h⟩) (fun b56 => ?_) ?_
              · refine JA_ready (rs := [5, 10]) (by kernel_rfl) rfl ?_
                refine JAl_cons (i := 5) rfl rfl (jo_callx rfl rfl Try.call67 rfl (least_jx _ _ b56) ((perm_bx b56))) (fun _ => ⟨by first | exact hsub_drop 0 rfl | exact hsub_all, fun _ h => h.2⟩) (fun x57 => ?_) ?_
                · refine JA_one (i := 10) (by kernel_rfl) rfl rfl (jo_buildSlice rfl (bsl_75_2_0_1 _ _)) (fun _ => ⟨hsub_drop 1 rfl, fun _ h => h⟩) fun b62 => ?_
                  refine JA_one (i := 11) (by kernel_rfl) rfl rfl (jo_callx rfl rfl Try.call68 rfl (greatest_jx _ _ b62) ((perm_bx b62))) (fun _ => ⟨by first | exact hsub_drop 0 rfl | exact hsub_all, fun _ h => h.2⟩) fun x63 => ?_
                  refine JA_pd (i := 12) rfl (by kernel_rfl) rfl rfl (det_build rfl (bld_49_0_1 _ _)) ?_
                  refine JA_tail (i := 13) (by kernel_rfl) rfl rfl rfl rfl (jo_store rfl rfl rfl (by first | (simp only [splice_norm]; done) | (simp only [splice_norm]; rfl) | rfl) Try.sizeOf49 rfl rfl) fun _ => ?_
                  refine JT_done (by kernel_rfl) ?_
                  refine JE_block ?_
                  refine JE_next (fun st' R' a' W' => hK (m2, widen o (turnN l n (row + 1) x.1.2)) hI2 st' R' a' W') (hsub_cons (hsub_bx rfl hsub_nil))
                refine JAl_cons (i := 10) rfl rfl (jo_buildSlice rfl (bsl_75_2_0_1 _ _)) (fun _ => ⟨hsub_drop 1 rfl, fun _ h => h⟩) (fun b62 => ?_) ?_
                · refine JA_one (i := 5) (by kernel_rfl) rfl rfl (jo_callx rfl rfl Try.call67 rfl (least_jx _ _ b56) ((perm_bx b56))) (fun _ => ⟨by first | exact hsub_drop 0 rfl | exact hsub_all, fun _ h => h.2⟩) fun x57 => ?_
                  refine JA_one (i := 11) (by kernel_rfl) rfl rfl (jo_callx rfl rfl Try.call68 rfl (greatest_jx _ _ b62) ((perm_bx b62))) (fun _ => ⟨by first | exact hsub_drop 0 rfl | exact hsub_all, fun _ h => h.2⟩) fun x63 => ?_
                  refine JA_pd (i := 12) rfl (by kernel_rfl) rfl rfl (det_build rfl (bld_49_0_1 _ _)) ?_
                  refine JA_tail (i := 13) (by kernel_rfl) rfl rfl rfl rfl (jo_store rfl rfl rfl (by first | (simp only [splice_norm]; done) | (simp only [splice_norm]; rfl) | rfl) Try.sizeOf49 rfl rfl) fun _ => ?_
                  refine JT_done (by kernel_rfl) ?_
                  refine JE_block ?_
                  refine JE_next (fun st' R' a' W' => hK (m2, widen o (turnN l n (row + 1) x.1.2)) hI2 st' R' a' W') (hsub_cons (hsub_bx rfl hsub_nil))
                exact JAl_nil
              refine JAl_cons (i := 10) rfl rfl (jo_buildSlice rfl (bsl_75_2_0_1 _ _)) (fun _ => ⟨hsub_drop 1 rfl, fun _ h => h⟩) (fun b62 => ?_) ?_
              · refine JA_one (i := 4) (by kernel_rfl) rfl rfl (jo_buildSlice rfl (bsl_75_2_0_1 _ _)) (fun _ => ⟨hsub_drop 1 rfl, fun _ h => h⟩) fun b56 => ?_
                refine JA_one (i := 5) (by kernel_rfl) rfl rfl (jo_callx rfl rfl Try.call67 rfl (least_jx _ _ b56) ((perm_bx b56))) (fun _ => ⟨by first | exact hsub_drop 0 rfl | exact hsub_all, fun _ h => h.2⟩) fun x57 => ?_
                refine JA_one (i := 11) (by kernel_rfl) rfl rfl (jo_callx rfl rfl Try.call68 rfl (greatest_jx _ _ b62) ((perm_bx b62))) (fun _ => ⟨by first | exact hsub_drop 0 rfl | exact hsub_all, fun _ h => h.2⟩) fun x63 => ?_
                refine JA_pd (i := 12) rfl (by kernel_rfl) rfl rfl (det_build rfl (bld_49_0_1 _ _)) ?_
                refine JA_tail (i := 13) (by kernel_rfl) rfl rfl rfl rfl (jo_store rfl rfl rfl (by first | (simp only [splice_norm]; done) | (simp only [splice_norm]; rfl) | rfl) Try.sizeOf49 rfl rfl) fun _ => ?_
                refine JT_done (by kernel_rfl) ?_
                refine JE_block ?_
                refine JE_next (fun st' R' a' W' => hK (m2, widen o (turnN l n (row + 1) x.1.2)) hI2 st' R' a' W') (hsub_cons (hsub_bx rfl hsub_nil))
              exact JAl_nil
            · rintro xs ⟨m1, o⟩ hS hI
              dsimp only at hI ⊢
              have hres : turnN l (n + 1) row s = ⟨max o.lo s.b, max o.hi s.b⟩ := by
                have : (stepsOf l row s).map (turnN l n (row + 1)) = xs.map (fun x => turnN l n (row + 1) x.1.2) := by
                  unfold stepsOf
                  rw [← hS, List.map_map, List.map_map]
                  refine List.map_congr_left fun x _ => ?_
                  simp only [Function.comp_apply]
                  rw [← x.2.2.2]
                simp [turnN, hon, this, ← hI]
              refine JE_block ?_
              refine JE_seq ?_
              refine JC_seq ?_
              -- stop: draw
              refine JC_cut2 (γ := Unit) (fun _ => True) (fun _ => [(2, pt bb), (3, pt bk), (4, pt bf), (5, pt b5), (6, pt b6), (7, pt b7), (8, pt b8)])
                (fun _ => [mp mk ekSp vR m1.1, bx b5 [I row], bx b6 [I s.b, I s.d], bx b7 [I 0, I 0], bx b8 [I (max o.lo s.b), I (max o.hi s.b)]]) (fun _ => KBox bk [.map (some mk)]) ?_ ?_
              · intro K hK
                refine JC_draw [13] (by kernel_rfl) ?_
                refine JA_pd (i := 0) rfl (by kernel_rfl) rfl rfl (det_fieldAddr rfl fo_49_0) ?_
                refine JA_dt (i := 1) rfl (by kernel_rfl) (by kernel_rfl) rfl rfl (det_loadK rfl Try.isAgg3 rfl) ?_
                refine JA_pd (i := 2) rfl (by kernel_rfl) rfl rfl (det_fieldAddr rfl fo_39_0) ?_
                refine JA_dt (i := 3) rfl (by kernel_rfl) (by kernel_rfl) rfl rfl (det_loadK rfl Try.isAgg3 rfl) ?_
                refine JA_pd (i := 6) rfl (by kernel_rfl) rfl rfl (det_fieldAddr rfl fo_49_1) ?_
                refine JA_dt (i := 7) rfl (by kernel_rfl) (by kernel_rfl) rfl rfl (det_loadK rfl Try.isAgg3 rfl) ?_
                refine JA_pd (i := 8) rfl (by kernel_rfl) rfl rfl (det_fieldAddr rfl fo_39_0) ?_
                refine JA_dt (i := 9) rfl (by kernel_rfl) (by kernel_rfl) rfl rfl (det_loadK rfl Try.isAgg3 rfl) ?_
                -- stop: multi [4, 10]
                refine JA_ready (rs := [4, 10]) (by kernel_rfl) rfl ?_
                refine JAl_cons (i := 4) rfl rfl (jo_buildSlice rfl (bsl_75_2_0_1 _ _)) (fun _ => ⟨hsub_drop 1 rfl, fun _ h => h⟩) (fun b69 => ?_) ?_
                · refine JA_ready (rs := [5, 10]) (by kernel_rfl) rfl ?_
                  refine JAl_cons (i := 5) rfl rfl (jo_callx rfl rfl Try.call68 rfl (greatest_jx _ _ b69) ((perm_bx b69))) (fun _ => ⟨by first | exact hsub_drop 0 rfl | exact hsub_all, fun _ h => h.2⟩) (fun x70 => ?_) ?_
                  · refine JA_one (i := 10) (by kernel_rfl) rfl rfl (jo_buildSlice rfl (bsl_75_2_0_1 _ _)) (fun _ => ⟨hsub_drop 1 rfl, fun _ h => h⟩) fun b75 => ?_
                    refine JA_one (i := 11) (by kernel_rfl) rfl rfl (jo_callx rfl rfl Try.call68 rfl (greatest_jx _ _ b75) ((perm_bx b75))) (fun _ => ⟨by first | exact hsub_drop 0 rfl | exact hsub_all, fun _ h => h.2⟩) fun x76 => ?_
                    refine JA_pd (i := 12) rfl (by kernel_rfl) rfl rfl (det_build rfl (bld_49_0_1 _ _)) ?_
                    refine JA_tail (i := 13) (by kernel_rfl) rfl rfl rfl rfl (jo_store rfl rfl rfl (by first | (simp only [splice_norm]; done) | (simp only [splice_norm]; rfl) | rfl) Try.sizeOf49 rfl rfl) fun _ => ?_
                    refine JT_done (by kernel_rfl) ?_
                    exact JE_cut hK () trivial (stsub_cons rfl (stsub_cons rfl (stsub_cons rfl (stsub_cons rfl (stsub_cons rfl (stsub_cons rfl (stsub_cons rfl stsub_nil))))))) (hsub_cons (hsub_bx rfl (hsub_bx rfl (hsub_bx rfl (hsub_bx rfl hsub_nil))))) Knows.know
                  refine JAl_cons (i := 10) rfl rfl (jo_buildSlice rfl (bsl_75_2_0_1 _ _)) (fun _ => ⟨hsub_drop 1 rfl, fun _ h => h⟩) (fun b75 => ?_) ?_
                  · refine JA_one (i := 5) (by kernel_rfl) rfl rfl (jo_callx rfl rfl Try.call68 rfl (greatest_jx _ _ b69) ((perm_bx b69))) (fun _ => ⟨by first | exact hsub_drop 0 rfl | exact hsub_all, fun _ h => h.2⟩) fun x70 => ?_
                    refine JA_one (i := 11) (by kernel_rfl) rfl rfl (jo_callx rfl rfl Try.call68 rfl (greatest_jx _ _ b75) ((perm_bx b75))) (fun _ => ⟨by first | exact hsub_drop 0 rfl | exact hsub_all, fun _ h => h.2⟩) fun x76 => ?_
                    refine JA_pd (i := 12) rfl (by kernel_rfl) rfl rfl (det_build rfl (bld_49_0_1 _ _)) ?_
                    refine JA_tail (i := 13) (by kernel_rfl) rfl rfl rfl rfl (jo_store rfl rfl rfl (by first | (simp only [splice_norm]; done) | (simp only [splice_norm]; rfl) | rfl) Try.sizeOf49 rfl rfl) fun _ => ?_
                    refine JT_done (by kernel_rfl) ?_
                    exact JE_cut hK () trivial (stsub_cons rfl (stsub_cons rfl (stsub_cons rfl (stsub_cons rfl (stsub_cons rfl (stsub_cons rfl (stsub_cons rfl stsub_nil))))))) (hsub_cons (hsub_bx rfl (hsub_bx rfl (hsub_bx rfl (hsub_bx rfl hsub_nil))))) Knows.know
                  exact JAl_nil
                refine JAl_cons (i := 10) rfl rfl (jo_buildSlice rfl (bsl_75_2_0_1 _ _)) (fun _ => ⟨hsub_drop 1 rfl, fun _ h => h⟩) (fun b75 => ?_) ?_
                · refine JA_one (i := 4) (by kernel_rfl) rfl rfl (jo_buildSlice rfl (bsl_75_2_0_1 _ _)) (fun _ => ⟨hsub_drop 1 rfl, fun _ h => h⟩) fun b69 => ?_
                  refine JA_one (i := 5) (by kernel_rfl) rfl rfl (jo_callx rfl rfl Try.call68 rfl (greatest_jx _ _ b69) ((perm_bx b69))) (fun _ => ⟨by first | exact hsub_drop 0 rfl | exact hsub_all, fun _ h => h.2⟩) fun x70 => ?_
                  refine JA_one (i := 11) (by kernel_rfl) rfl rfl (jo_callx rfl rfl Try.call68 rfl (greatest_jx _ _ b75) ((perm_bx b75))) (fun _ => ⟨by first | exact hsub_drop 0 rfl | exact hsub_all, fun _ h => h.2⟩) fun x76 => ?_
                  refine JA_pd (i := 12) rfl (by kernel_rfl) rfl rfl (det_build rfl (bld_49_0_1 _ _)) ?_
                  refine JA_tail (i := 13) (by kernel_rfl) rfl rfl rfl rfl (jo_store rfl rfl rfl (by first | (simp only [splice_norm]; done) | (simp only [splice_norm]; rfl) | rfl) Try.sizeOf49 rfl rfl) fun _ => ?_
                  refine JT_done (by kernel_rfl) ?_
                  exact JE_cut hK () trivial (stsub_cons rfl (stsub_cons rfl (stsub_cons rfl (stsub_cons rfl (stsub_cons rfl (stsub_cons rfl (stsub_cons rfl stsub_nil))))))) (hsub_cons (hsub_bx rfl (hsub_bx rfl (hsub_bx rfl (hsub_bx rfl hsub_nil))))) Knows.know
                exact JAl_nil
              · rintro - -
                refine JC_seq ?_
                refine JC_region ?_
                refine JL_dt rfl (det_loadK rfl Try.isAgg121 rfl) ?_
                refine JL_dt rfl (det_loadK rfl Try.isAgg3 rfl) ?_
                refine JL_dt rfl (det_loadKA rfl Try.isAgg39 Try.sizeOf39 rfl rfl) ?_
                refine JL_pd rfl (det_build rfl (bld_126_0_1 _ _ _)) ?_
                refine JL_dt rfl (det_loadKA rfl Try.isAgg49 Try.sizeOf49 rfl rfl) ?_
                -- stop: op  5 _ := (mapUpdate 121 t78 t81 t82)   <0 3 4>   200
                refine JL_step0 rfl rfl (jo_mapUpdate (row, s) ⟨max o.lo s.b, max o.hi s.b⟩ (.inl rfl) rfl rfl rfl goodSp Try.underlying121) fun _ => ?_
                refine JL_nil ?_
                refine JE_seq ?_
                refine JC_seq ?_
                refine JC_region ?_
                refine JL_dt rfl (det_loadKA rfl Try.isAgg49 Try.sizeOf49 rfl rfl) ?_
                refine JL_step0 rfl rfl (jo_store rfl rfl rfl (by first | (simp only [splice_norm]; done) | (simp only [splice_norm]; rfl) | rfl) Try.sizeOf49 rfl rfl) fun _ => ?_
                refine JL_nil ?_
                refine JE_seq ?_
                refine JC_ret ?_
                -- stop: out
                refine JE_out (.inl rfl) ⟨upd m1.1 (row, s) ⟨max o.lo s.b, max o.hi s.b⟩, m1.2.upd (by rw [hrw, hres])⟩ (results1 Try.results64 (res_box rfl Try.isAgg49 Try.sizeOf49 rfl)) (by rw [hres]) pick_perm (fun _ _ => trivial)
            · exact fun _ _ _ _ h => h.elim
      · skip
        refine JL_dt rfl (det_lookup2S hmk rfl rfl goodSp Try.underlying121 Try.zeroValue49) ?_
        refine JL_pd rfl (det_move rfl) ?_
        refine JL_pd rfl (det_extract rfl rfl) ?_
        refine JL_pd rfl (det_extract rfl rfl) ?_
        refine JL_step rfl rfl rfl (jo_alloc0 Try.zeroValue49 rfl) fun b8 => ?_
        refine JL_step0 rfl rfl (jo_store rfl rfl rfl (by first | (simp only [splice_norm]; done) | (simp only [splice_norm]; rfl) | rfl) Try.sizeOf49 rfl rfl) fun _ => ?_
        refine JL_pd rfl (det_assign rfl) ?_
        refine JL_nil ?_
        refine JE_seq ?_
        refine JC_seq ?_
        refine JC_seq ?_
        refine JC_region ?_
        refine JL_pd rfl (det_move rfl) ?_
        refine JL_nil ?_
        refine JE_seq ?_
        -- stop: cond
        refine JC_cond rfl (fun hno => ?_) (fun hno => ?_)
        · refine JC_seq ?_
          refine JC_region ?_
          refine JL_dt rfl (det_loadKA rfl Try.isAgg49 Try.sizeOf49 rfl rfl) ?_
          refine JL_step0 rfl rfl (jo_store rfl rfl rfl (by first | (simp only [splice_norm]; done) | (simp only [splice_norm]; rfl) | rfl) Try.sizeOf49 rfl rfl) fun _ => ?_
          refine JL_nil ?_
          refine JE_seq ?_
          refine JC_ret ?_
          refine JE_seq_ret ?_
          -- stop: out
          refine JE_out (.inl rfl) m (results1 Try.results64 (res_box rfl Try.isAgg49 Try.sizeOf49 rfl)) (by rw [m.2 _ _ hmk]; rw [show (l.rows - 1 - (row, s).1).toNat = n + 1 from by show (l.rows - 1 - row).toNat = _; omega]) pick_perm (fun _ _ => trivial)
        · refine JC_skip ?_
          refine JE_seq ?_
          refine JC_seq ?_
          refine JC_seq ?_
          refine JC_region ?_
          refine JL_dt rfl (det_loadK rfl Try.isAgg3 rfl) ?_
          refine JL_pd rfl (det_fieldAddr rfl fo_107_0) ?_
          refine JL_pd rfl (det_fieldAddr rfl fo_37_1) ?_
          refine JL_dt rfl (det_loadK rfl Try.isAgg3 rfl) ?_
          refine JL_pd rfl (det_sub rfl rfl ⟨by omega, by omega⟩) ?_
          refine JL_pd rfl (det_eql rfl rfl) ?_
          refine JL_nil ?_
          refine JE_seq ?_
          -- stop: cond
          cases hno
end Go.Proofs.Ytcfhbnfincpehaa

/- Walks of package path: Turn, Play. -/
namespace Go.Proofs.Ytcfhbnfincpehaa
open Go.RowKit Go.Shelf

theorem Turn_je (l : La) (s : St) (ha pa : Option Addr) (hc pc : Nat) (he : startErr l s ≠ 0) : Cv Try.prog 25 [.agg #[I l.boards, I l.rows, .slice ha l.hooks.length hc, .slice pa l.patches.length pc], .agg #[I s.b, I s.d]] (KLane l ha hc pa pc) (.tuple #[.agg #[I 0, I 0], I (startErr l s)]) := by
  refine Cx_of Try.func25 rfl Try.ntmps25 rfl fun w0 M0 => ?_
  refine JC_seq ?_
  refine JC_region ?_
  refine JL_step rfl rfl rfl (jo_box rfl rfl) fun b2 => ?_
  refine JL_step rfl rfl rfl (jo_box rfl rfl) fun b3 => ?_
  refine JL_step rfl rfl rfl (jo_alloc0 Try.zeroValue49 rfl) fun b4 => ?_
  refine JL_pd rfl (det_assign rfl) ?_
  refine JL_nil ?_
  refine JE_seq ?_
  refine JC_seq ?_
  refine JC_region ?_
  refine JL_dt rfl (det_loadKA rfl Try.isAgg37 Try.sizeOf37 rfl rfl) ?_
  refine JL_dt rfl (det_loadKA rfl Try.isAgg39 Try.sizeOf39 rfl rfl) ?_
  -- stop: op  2 t13 := (call (Call (value f56) (t11 t12) (37 39)))   <0 1>   176
  refine JL_step rfl rfl rfl (jo_callv rfl rfl Try.call56 rfl (started_je l s ha pa hc pc he)) fun _ => ?_
  refine JL_pd rfl (det_move rfl) ?_
  refine JL_pd rfl (det_extract rfl rfl) ?_
  refine JL_pd rfl (det_extract rfl rfl) ?_
  refine JL_step rfl rfl rfl (jo_alloc0 Try.zeroValue107 rfl) fun b6 => ?_
  refine JL_step0 rfl rfl (jo_store rfl rfl rfl (by first | (simp only [splice_norm]; done) | (simp only [splice_norm]; rfl) | rfl) Try.sizeOf107 rfl rfl) fun _ => ?_
  refine JL_pd rfl (det_assign rfl) ?_
  refine JL_nil ?_
  refine JE_seq ?_
  refine JC_seq ?_
  refine JC_seq ?_
  refine JC_region ?_
  refine JL_pd rfl (det_move rfl) ?_
  refine JL_pd rfl (det_neq rfl rfl) ?_
  refine JL_nil ?_
  refine JE_seq ?_
  -- stop: cond
  refine JC_ifn rfl (fun h1 => ?_) (fun h1 => ?_)
  · refine JC_seq ?_
    refine JC_region ?_
    refine JL_pd rfl (det_build rfl (bld_49)) ?_
    refine JL_pd rfl (det_move rfl) ?_
    refine JL_step0 rfl rfl (jo_store rfl rfl rfl (by first | (simp only [splice_norm]; done) | (simp only [splice_norm]; rfl) | rfl) Try.sizeOf49 rfl rfl) fun _ => ?_
    refine JL_pd rfl (det_assign rfl) ?_
    refine JL_nil ?_
    refine JE_seq ?_
    refine JC_ret ?_
    refine JE_seq_ret ?_
    -- stop: out
    refine JE_out (.inl rfl) () (results2 Try.results25 (res_box rfl Try.isAgg49 Try.sizeOf49 rfl) (res_tmp rfl)) rfl (List.Perm.refl _) (fun _ _ => trivial)
  · refine JC_skip ?_
    refine JE_seq ?_
    refine JC_seq ?_
    refine JC_region ?_
    -- stop: op  0 t20 := (makeMap 121 none)   180
    exact absurd h1 he
/-- The range of the turns of a ball. -/
def turnV (l : La) (s : St) : Rg := turnN l (nR l) 0 s
theorem Turn_jo (l : La) (s : St) (ha pa : Option Addr) (hc pc : Nat) (he : startErr l s = 0) : Cv Try.prog 25 [.agg #[I l.boards, I l.rows, .slice ha l.hooks.length hc, .slice pa l.patches.length pc], .agg #[I s.b, I s.d]] (KLane l ha hc pa pc) (.tuple #[.agg #[I (turnV l s).lo, I (turnV l s).hi], I 0]) := by
  obtain ⟨V, h0⟩ := valid_start he
  obtain ⟨d1, d2⟩ := start_d h0
  have r1 := V.r1
  refine Cx_of Try.func25 rfl Try.ntmps25 rfl fun w0 M0 => ?_
  refine JC_seq ?_
  refine JC_region ?_
  refine JL_step rfl rfl rfl (jo_box rfl rfl) fun b2 => ?_
  refine JL_step rfl rfl rfl (jo_box rfl rfl) fun b3 => ?_
  refine JL_step rfl rfl rfl (jo_alloc0 Try.zeroValue49 rfl) fun b4 => ?_
  refine JL_pd rfl (det_assign rfl) ?_
  refine JL_nil ?_
  refine JE_seq ?_
  refine JC_seq ?_
  refine JC_region ?_
  refine JL_dt rfl (det_loadKA rfl Try.isAgg37 Try.sizeOf37 rfl rfl) ?_
  refine JL_dt rfl (det_loadKA rfl Try.isAgg39 Try.sizeOf39 rfl rfl) ?_
  -- stop: op  2 t13 := (call (Call (value f56) (t11 t12) (37 39)))   <0 1>   176
  refine JL_step rfl rfl rfl (jo_call rfl rfl Try.call56 rfl (started_jo l s ha pa hc pc he)) fun g => ?_
  refine JL_pd rfl (det_move rfl) ?_
  refine JL_pd rfl (det_extract rfl rfl) ?_
  refine JL_pd rfl (det_extract rfl rfl) ?_
  refine JL_step rfl rfl rfl (jo_alloc0 Try.zeroValue107 rfl) fun b6 => ?_
  refine JL_step0 rfl rfl (jo_store rfl rfl rfl (by first | (simp only [splice_norm]; done) | (simp only [splice_norm]; rfl) | rfl) Try.sizeOf107 rfl rfl) fun _ => ?_
  refine JL_pd rfl (det_assign rfl) ?_
  refine JL_nil ?_
  refine JE_seq ?_
  refine JC_seq ?_
  refine JC_seq ?_
  refine JC_region ?_
  refine JL_pd rfl (det_move rfl) ?_
  refine JL_pd rfl (det_neq rfl rfl) ?_
  refine JL_nil ?_
  refine JE_seq ?_
  -- stop: cond
  refine JC_ifn rfl (fun h1 => ?_) (fun h1 => ?_)
  · refine JC_seq ?_
    refine JC_region ?_
    refine JL_pd rfl (det_build rfl (bld_49)) ?_
    refine JL_pd rfl (det_move rfl) ?_
    refine JL_step0 rfl rfl (jo_store rfl rfl rfl (by first | (simp only [splice_norm]; done) | (simp only [splice_norm]; rfl) | rfl) Try.sizeOf49 rfl rfl) fun _ => ?_
    refine JL_pd rfl (det_assign rfl) ?_
    refine JL_nil ?_
    refine JE_seq ?_
    refine JC_ret ?_
    refine JE_seq_ret ?_
    -- stop: out
    exact absurd rfl h1
  · refine JC_skip ?_
    refine JE_seq ?_
    refine JC_seq ?_
    refine JC_region ?_
    -- stop: op  0 t20 := (makeMap 121 none)   180
    refine JL_step rfl rfl rfl (jo_makeMap ekSp vR) fun b20 => ?_
    refine JL_step rfl rfl rfl (jo_alloc0 Try.zeroValue121 rfl) fun b8 => ?_
    refine JL_step0 rfl rfl (jo_store rfl rfl rfl (by first | (simp only [splice_norm]; done) | (simp only [splice_norm]; rfl) | rfl) Try.sizeOf121 rfl rfl) fun _ => ?_
    refine JL_nil ?_
    refine JE_seq ?_
    refine JC_seq ?_
    refine JC_region ?_
    refine JL_step rfl rfl rfl (jo_alloc0 Try.zeroValue122 rfl) fun b9 => ?_
    refine JL_nil ?_
    refine JE_seq ?_
    refine JC_seq ?_
    refine JC_region ?_
    refine JL_pd rfl (det_makeFuncE rfl rfl) ?_
    refine JL_step0 rfl rfl (jo_store rfl rfl rfl (by first | (simp only [splice_norm]; done) | (simp only [splice_norm]; rfl) | rfl) Try.sizeOf122 rfl rfl) fun _ => ?_
    refine JL_nil ?_
    refine JE_seq ?_
    refine JC_seq ?_
    refine JC_region ?_
    refine JL_dt rfl (det_loadK rfl Try.isAgg122 rfl) ?_
    refine JL_dt rfl (det_loadKA rfl Try.isAgg39 Try.sizeOf39 rfl rfl) ?_
    -- stop: op  2 t24 := (call (Call (value t22) (0 t23) (3 39)))   <0 1>   203
    refine JL_keep b6 noFp (JL_keep b8 noFp (JL_keep b9 noFp ?_))
    refine JL_step rfl rfl rfl (jo_callx rfl rfl Try.call64 rfl (turn1_j l ha pa hc pc g b6 b8 b9 b20 V (nR l) 0 s ⟨fun _ => none, fun _ _ h => by cases h⟩ (by unfold nR; omega) (by omega) d1 d2) ((perm1 (mp b20 ekSp vR (fun _ => none))))) fun m => ?_
    refine JL_step0 rfl rfl (jo_store rfl rfl rfl (by first | (simp only [splice_norm]; done) | (simp only [splice_norm]; rfl) | rfl) Try.sizeOf49 rfl rfl) fun _ => ?_
    refine JL_pd rfl (det_assign rfl) ?_
    refine JL_nil ?_
    refine JE_seq ?_
    refine JC_ret ?_
    -- stop: out
    refine JE_out (.inl rfl) () (results2 Try.results25 (res_box rfl Try.isAgg49 Try.sizeOf49 rfl) (res_tmp rfl)) rfl (List.Perm.refl _) (fun _ _ => trivial)
end Go.Proofs.Ytcfhbnfincpehaa

/- Walks of the reference and of the statements about path: small functions. -/
namespace Go.Proofs.Ytcfhbnfincpehaa
open Go.RowKit Go.Shelf

theorem rIn_j (n lo hi : Int) : Cv Try.prog 22 [I n, I lo, I hi] KTrue (.bool (decide (lo ≤ n ∧ n ≤ hi))) := by
  refine Cx_of Try.func22 rfl Try.ntmps22 rfl fun w0 M0 => ?_
  refine JC_seq ?_
  refine JC_region ?_
  refine JL_pd rfl (det_assign rfl) ?_
  refine JL_nil ?_
  refine JE_seq ?_
  refine JC_seq ?_
  refine JC_region ?_
  refine JL_pd rfl (det_move rfl) ?_
  refine JL_pd rfl (det_move rfl) ?_
  refine JL_pd rfl (det_geq rfl rfl) ?_
  refine JL_pd rfl (det_move rfl) ?_
  refine JL_split (d0 := 10) rfl (fun h1 => ?_) (fun h1 => ?_)
  · refine JL_guard rfl rfl h1 ?_
    refine JL_pd rfl (det_move rfl) ?_
    refine JL_guard rfl rfl h1 ?_
    refine JL_pd rfl (det_move rfl) ?_
    refine JL_guard rfl rfl h1 ?_
    refine JL_pd rfl (det_leq rfl rfl) ?_
    refine JL_pd rfl (det_pick_t rfl h1 rfl) ?_
    refine JL_pd rfl (det_assign rfl) ?_
    refine JL_nil ?_
    refine JE_seq ?_
    refine JC_ret ?_
    refine JE_out (.inl rfl) () (results1 Try.results22 (res_tmp rfl)) ?_ (List.Perm.refl _) (fun _ _ => trivial)
    (simp_all)
    (try omega)
  · refine JL_skip rfl rfl h1 rfl ?_
    refine JL_skip rfl rfl h1 rfl ?_
    refine JL_skip rfl rfl h1 rfl ?_
    refine JL_pd rfl (det_pick_f rfl h1 rfl) ?_
    refine JL_pd rfl (det_assign rfl) ?_
    refine JL_nil ?_
    refine JE_seq ?_
    refine JC_ret ?_
    refine JE_out (.inl rfl) () (results1 Try.results22 (res_tmp rfl)) ?_ (List.Perm.refl _) (fun _ _ => trivial)
    (simp_all)
    (try omega)
theorem rFault_j (l : La) (ha pa : Option Addr) (hc pc : Nat) : Cv Try.prog 28 [.agg #[I l.boards, I l.rows, .slice ha l.hooks.length hc, .slice pa l.patches.length pc]] (KLane l ha hc pa pc) (I (fault l)) :=
  Cv_of fun w h => Fault_any l ha pa hc pc w h.at_
theorem rIsStart_j (l : La) (ha pa : Option Addr) (hc pc : Nat) (s : St) : Cv Try.prog 60 [.agg #[I l.boards, I l.rows, .slice ha l.hooks.length hc, .slice pa l.patches.length pc], .agg #[I s.b, I s.d]] KTrue (.bool (isStart l s)) :=
  Cv_of fun w _ => IsStart_any l s ha pa hc pc w
theorem rIsPocket_j (p : Pk) : Cv Try.prog 33 [.agg #[I p.boards.lo, I p.boards.hi, I p.dirs.lo, I p.dirs.hi]] KTrue (.bool (isPocket p)) := Cv_of fun w _ => IsPocket_any p w
theorem rNext_j (s : St) (t : Int) (h1 : -5 ≤ s.d) (h2 : s.d ≤ 5) (h3 : -3 ≤ t) (h4 : t ≤ 3) (h5 : -1000 ≤ s.b) (h6 : s.b ≤ 1000) : Cv Try.prog 38 [.agg #[I s.b, I s.d], I t] KTrue (.agg #[I (nextS s t).b, I (nextS s t).d]) :=
  Cv_of fun w _ => Next_any s t w h1 h2 h3 h4 h5 h6
theorem rLess_j (s t : St) : Cv Try.prog 62 [.agg #[I s.b, I s.d], .agg #[I t.b, I t.d]] KTrue (.bool (lessS s t)) := Cv_of fun w _ => Less_any s t w
theorem rVerdict_j (n m : Int) : Cv Try.prog 63 [I n, I m] KTrue (.int .u8 (verdict n m)) := Cv_of fun w _ => (Verdict_any n m w).mono fun e w' h => ⟨h.1, by rw [← h.2]; exact Below.refl _ _⟩

theorem lTo_j (r : Rg) : Cv Try.prog 26 [.agg #[I r.lo, I r.hi]] KTrue (.agg #[I r.lo, I r.hi]) := by
  refine Cx_of Try.func26 rfl Try.ntmps26 rfl fun w0 M0 => ?_
  refine JC_seq ?_
  refine JC_region ?_
  refine JL_step rfl rfl rfl (jo_box rfl rfl) fun b1 => ?_
  refine JL_step rfl rfl rfl (jo_alloc0 Try.zeroValue49 rfl) fun b2 => ?_
  refine JL_nil ?_
  refine JE_seq ?_
  refine JC_seq ?_
  refine JC_region ?_
  refine JL_pd rfl (det_fieldAddr rfl fo_53_0) ?_
  refine JL_dt rfl (det_loadK rfl Try.isAgg3 rfl) ?_
  refine JL_pd rfl (det_fieldAddr rfl fo_53_1) ?_
  refine JL_dt rfl (det_loadK rfl Try.isAgg3 rfl) ?_
  refine JL_pd rfl (det_build rfl (bld_49_0_1 _ _)) ?_
  refine JL_step0 rfl rfl (jo_store rfl rfl rfl (by first | (simp only [splice_norm]; done) | (simp only [splice_norm]; rfl) | rfl) Try.sizeOf49 rfl rfl) fun _ => ?_
  refine JL_nil ?_
  refine JE_seq ?_
  refine JC_ret ?_
  refine JE_out (.inl rfl) () (results1 Try.results26 (res_box rfl Try.isAgg49 Try.sizeOf49 rfl)) ?_ (List.Perm.refl _) (fun _ _ => trivial)
  rfl
theorem lStart_j (s : St) : Cv Try.prog 20 [.agg #[I s.b, I s.d]] KTrue (.agg #[I s.b, I s.d]) := by
  refine Cx_of Try.func20 rfl Try.ntmps20 rfl fun w0 M0 => ?_
  refine JC_seq ?_
  refine JC_region ?_
  refine JL_step rfl rfl rfl (jo_box rfl rfl) fun b1 => ?_
  refine JL_step rfl rfl rfl (jo_alloc0 Try.zeroValue39 rfl) fun b2 => ?_
  refine JL_nil ?_
  refine JE_seq ?_
  refine JC_seq ?_
  refine JC_region ?_
  refine JL_pd rfl (det_fieldAddr rfl fo_27_0) ?_
  refine JL_dt rfl (det_loadK rfl Try.isAgg3 rfl) ?_
  refine JL_pd rfl (det_fieldAddr rfl fo_27_1) ?_
  refine JL_dt rfl (det_loadK rfl Try.isAgg3 rfl) ?_
  refine JL_pd rfl (det_build rfl (bld_39_0_1 _ _)) ?_
  refine JL_step0 rfl rfl (jo_store rfl rfl rfl (by first | (simp only [splice_norm]; done) | (simp only [splice_norm]; rfl) | rfl) Try.sizeOf39 rfl rfl) fun _ => ?_
  refine JL_nil ?_
  refine JE_seq ?_
  refine JC_ret ?_
  refine JE_out (.inl rfl) () (results1 Try.results20 (res_box rfl Try.isAgg39 Try.sizeOf39 rfl)) ?_ (List.Perm.refl _) (fun _ _ => trivial)
  rfl
theorem lPocket_j (p : Pk) : Cv Try.prog 30 [.agg #[I p.boards.lo, I p.boards.hi, I p.dirs.lo, I p.dirs.hi]] KTrue (.agg #[I p.boards.lo, I p.boards.hi, I p.dirs.lo, I p.dirs.hi]) := by
  refine Cx_of Try.func30 rfl Try.ntmps30 rfl fun w0 M0 => ?_
  refine JC_seq ?_
  refine JC_region ?_
  refine JL_step rfl rfl rfl (jo_box rfl rfl) fun b1 => ?_
  refine JL_step rfl rfl rfl (jo_alloc0 Try.zeroValue62 rfl) fun b2 => ?_
  refine JL_nil ?_
  refine JE_seq ?_
  refine JC_seq ?_
  refine JC_draw [7] (by kernel_rfl) ?_
  refine JA_pd (i := 0) rfl (by kernel_rfl) rfl rfl (det_fieldAddr rfl fo_57_0) ?_
  refine JA_dt (i := 1) rfl (by kernel_rfl) (by kernel_rfl) rfl rfl (det_loadKA rfl Try.isAgg53 Try.sizeOf53 rfl rfl) ?_
  refine JA_pd (i := 3) rfl (by kernel_rfl) rfl rfl (det_fieldAddr rfl fo_57_1) ?_
  refine JA_dt (i := 4) rfl (by kernel_rfl) (by kernel_rfl) rfl rfl (det_loadKA rfl Try.isAgg53 Try.sizeOf53 rfl rfl) ?_
  refine JA_one (i := 2) (by kernel_rfl) rfl rfl (jo_callv rfl rfl Try.call26 rfl (lTo_j ⟨_, _⟩)) (fun _ => ⟨hsub_refl, fun _ h => h⟩) fun _ => ?_
  refine JA_one (i := 5) (by kernel_rfl) rfl rfl (jo_callv rfl rfl Try.call26 rfl (lTo_j ⟨_, _⟩)) (fun _ => ⟨hsub_refl, fun _ h => h⟩) fun _ => ?_
  refine JA_pd (i := 6) rfl (by kernel_rfl) rfl rfl (det_build rfl (bld_62_0_1 _ _ _ _)) ?_
  refine JA_tail (i := 7) (by kernel_rfl) rfl rfl rfl rfl (jo_store rfl rfl rfl (by first | (simp only [splice_norm]; done) | (simp only [splice_norm]; rfl) | rfl) Try.sizeOf62 rfl rfl) fun _ => ?_
  refine JT_done (by kernel_rfl) ?_
  refine JE_seq ?_
  refine JC_ret ?_
  refine JE_out (.inl rfl) () (results1 Try.results30 (res_box rfl Try.isAgg62 Try.sizeOf62 rfl)) ?_ (List.Perm.refl _) (fun _ _ => trivial)
  rfl
theorem lbetween_j (a b : Int) : Cv Try.prog 54 [I a, I b] KTrue (.agg #[I a, I b]) := by
  refine Cx_of Try.func54 rfl Try.ntmps54 rfl fun w0 M0 => ?_
  refine JC_seq ?_
  refine JC_region ?_
  refine JL_step rfl rfl rfl (jo_alloc0 Try.zeroValue49 rfl) fun b4 => ?_
  refine JL_nil ?_
  refine JE_seq ?_
  refine JC_seq ?_
  refine JC_region ?_
  refine JL_pd rfl (det_move rfl) ?_
  refine JL_pd rfl (det_move rfl) ?_
  refine JL_pd rfl (det_build rfl (bld_49_0_1 _ _)) ?_
  refine JL_step0 rfl rfl (jo_store rfl rfl rfl (by first | (simp only [splice_norm]; done) | (simp only [splice_norm]; rfl) | rfl) Try.sizeOf49 rfl rfl) fun _ => ?_
  refine JL_nil ?_
  refine JE_seq ?_
  refine JC_ret ?_
  refine JE_out (.inl rfl) () (results1 Try.results54 (res_box rfl Try.isAgg49 Try.sizeOf49 rfl)) ?_ (List.Perm.refl _) (fun _ _ => trivial)
  rfl
def aimedP : Pk := ⟨⟨9, 15⟩, ⟨-3, -1⟩⟩
theorem laimed_j : Cv Try.prog 53 [] KTrue (.agg #[I aimedP.boards.lo, I aimedP.boards.hi, I aimedP.dirs.lo, I aimedP.dirs.hi]) := by
  refine Cx_of Try.func53 rfl Try.ntmps53 rfl fun w0 M0 => ?_
  refine JC_seq ?_
  refine JC_region ?_
  refine JL_step rfl rfl rfl (jo_alloc0 Try.zeroValue62 rfl) fun b0 => ?_
  refine JL_nil ?_
  refine JE_seq ?_
  refine JC_seq ?_
  refine JC_region ?_
  refine JL_step rfl rfl rfl (jo_callv rfl rfl Try.call54 rfl (lbetween_j _ _)) fun _ => ?_
  refine JL_step rfl rfl rfl (jo_callv rfl rfl Try.call54 rfl (lbetween_j _ _)) fun _ => ?_
  refine JL_pd rfl (det_build rfl (bld_62_0_1 _ _ _ _)) ?_
  refine JL_step0 rfl rfl (jo_store rfl rfl rfl (by first | (simp only [splice_norm]; done) | (simp only [splice_norm]; rfl) | rfl) Try.sizeOf62 rfl rfl) fun _ => ?_
  refine JL_nil ?_
  refine JE_seq ?_
  refine JC_ret ?_
  refine JE_out (.inl rfl) () (results1 Try.results53 (res_box rfl Try.isAgg62 Try.sizeOf62 rfl)) ?_ (List.Perm.refl _) (fun _ _ => trivial)
  rfl
/-- At most 12 patches, 6 hooks. -/
def thin (l : La) : Bool := decide (l.patches.length ≤ 12 ∧ l.hooks.length ≤ 6)
theorem lThin_j (l : La) (ha pa : Option Addr) (hc pc : Nat) : Cv Try.prog 40 [.agg #[I l.boards, I l.rows, .slice ha l.hooks.length hc, .slice pa l.patches.length pc]] KTrue (.bool (thin l)) := by
  refine Cx_of Try.func40 rfl Try.ntmps40 rfl fun w0 M0 => ?_
  refine JC_seq ?_
  refine JC_region ?_
  refine JL_step rfl rfl rfl (jo_box rfl rfl) fun b1 => ?_
  refine JL_pd rfl (det_assign rfl) ?_
  refine JL_nil ?_
  refine JE_seq ?_
  refine JC_seq ?_
  refine JC_region ?_
  refine JL_pd rfl (det_fieldAddr rfl fo_25_3) ?_
  refine JL_dt rfl (det_loadK rfl Try.isAgg23 rfl) ?_
  refine JL_pd rfl (det_len rfl Try.runUnderlying23) ?_
  refine JL_pd rfl (det_leq rfl rfl) ?_
  refine JL_pd rfl (det_move rfl) ?_
  refine JL_split (d0 := 7) rfl (fun h1 => ?_) (fun h1 => ?_)
  · refine JL_guard rfl rfl h1 ?_
    refine JL_pd rfl (det_fieldAddr rfl fo_25_2) ?_
    refine JL_guard rfl rfl h1 ?_
    refine JL_dt rfl (det_loadK rfl Try.isAgg22 rfl) ?_
    refine JL_guard rfl rfl h1 ?_
    refine JL_pd rfl (det_len rfl Try.runUnderlying22) ?_
    refine JL_guard rfl rfl h1 ?_
    refine JL_pd rfl (det_leq rfl rfl) ?_
    refine JL_pd rfl (det_pick_t rfl h1 rfl) ?_
    refine JL_pd rfl (det_assign rfl) ?_
    refine JL_nil ?_
    refine JE_seq ?_
    refine JC_ret ?_
    refine JE_out (.inl rfl) () (results1 Try.results40 (res_tmp rfl)) ?_ (List.Perm.refl _) (fun _ _ => trivial)
    (simp_all [thin])
    (try (rw [Bool.eq_iff_iff]; simp))
    (try omega)
  · refine JL_skip rfl rfl h1 rfl ?_
    refine JL_skip rfl rfl h1 rfl ?_
    refine JL_skip rfl rfl h1 rfl ?_
    refine JL_skip rfl rfl h1 rfl ?_
    refine JL_pd rfl (det_pick_f rfl h1 rfl) ?_
    refine JL_pd rfl (det_assign rfl) ?_
    refine JL_nil ?_
    refine JE_seq ?_
    refine JC_ret ?_
    refine JE_out (.inl rfl) () (results1 Try.results40 (res_tmp rfl)) ?_ (List.Perm.refl _) (fun _ _ => trivial)
    (simp_all [thin])
    (try (rw [Bool.eq_iff_iff]; simp))
    (try omega)
theorem lfault_j (l : La) (ha pa : Option Addr) (hc pc : Nat) : Cv Try.prog 32 [.agg #[I l.boards, I l.rows, .slice ha l.hooks.length hc, .slice pa l.patches.length pc]] (KLane l ha hc pa pc) (I (fault l)) := by
  refine Cx_of Try.func32 rfl Try.ntmps32 rfl fun w0 M0 => ?_
  refine JC_seq ?_
  refine JC_region ?_
  refine JL_step rfl rfl rfl (jo_box rfl rfl) fun b1 => ?_
  refine JL_pd rfl (det_assign rfl) ?_
  refine JL_nil ?_
  refine JE_seq ?_
  refine JC_seq ?_
  refine JC_region ?_
  refine JL_dt rfl (det_loadKA rfl Try.isAgg25 Try.sizeOf25 rfl rfl) ?_
  refine JL_step rfl rfl rfl (jo_callv rfl rfl Try.call28 rfl (rFault_j l ha pa hc pc)) fun _ => ?_
  refine JL_pd rfl (det_assign rfl) ?_
  refine JL_nil ?_
  refine JE_seq ?_
  refine JC_ret ?_
  refine JE_out (.inl rfl) () (results1 Try.results32 (res_tmp rfl)) ?_ (List.Perm.refl _) (fun _ _ => trivial)
  rfl
theorem lstarted_j (l : La) (s : St) (ha pa : Option Addr) (hc pc : Nat) : Cv Try.prog 21 [.agg #[I l.boards, I l.rows, .slice ha l.hooks.length hc, .slice pa l.patches.length pc], .agg #[I s.b, I s.d]] (KLane l ha hc pa pc) (I (startErr l s)) := by
  refine Cx_of Try.func21 rfl Try.ntmps21 rfl fun w0 M0 => ?_
  refine JC_seq ?_
  refine JC_region ?_
  refine JL_step rfl rfl rfl (jo_box rfl rfl) fun b2 => ?_
  refine JL_step rfl rfl rfl (jo_box rfl rfl) fun b3 => ?_
  refine JL_pd rfl (det_assign rfl) ?_
  refine JL_nil ?_
  refine JE_seq ?_
  refine JC_seq ?_
  refine JC_seq ?_
  refine JC_region ?_
  refine JL_dt rfl (det_loadKA rfl Try.isAgg25 Try.sizeOf25 rfl rfl) ?_
  refine JL_step rfl rfl rfl (jo_callv rfl rfl Try.call32 rfl (lfault_j l ha pa hc pc)) fun _ => ?_
  refine JL_pd rfl (det_assign rfl) ?_
  refine JL_nil ?_
  refine JE_seq ?_
  refine JC_seq ?_
  refine JC_region ?_
  refine JL_pd rfl (det_move rfl) ?_
  refine JL_pd rfl (det_neq rfl rfl) ?_
  refine JL_nil ?_
  refine JE_seq ?_
  refine JC_cond rfl (fun h1 => ?_) (fun h1 => ?_)
  · refine JC_seq ?_
    refine JC_region ?_
    refine JL_pd rfl (det_move rfl) ?_
    refine JL_pd rfl (det_assign rfl) ?_
    refine JL_nil ?_
    refine JE_seq ?_
    refine JC_ret ?_
    refine JE_seq_ret ?_
    refine JE_out (.inl rfl) () (results1 Try.results21 (res_tmp rfl)) ?_ (List.Perm.refl _) (fun _ _ => trivial)
    (simp_all [startErr])
  · refine JC_skip ?_
    refine JE_seq ?_
    refine JC_seq ?_
    refine JC_seq ?_
    refine JC_region ?_
    refine JL_dt rfl (det_loadKA rfl Try.isAgg25 Try.sizeOf25 rfl rfl) ?_
    refine JL_dt rfl (det_loadKA rfl Try.isAgg27 Try.sizeOf27 rfl rfl) ?_
    refine JL_step rfl rfl rfl (jo_callv rfl rfl Try.call60 rfl (rIsStart_j l ha pa hc pc s)) fun _ => ?_
    refine JL_pd rfl (det_not rfl) ?_
    refine JL_nil ?_
    refine JE_seq ?_
    refine JC_cond rfl (fun h2 => ?_) (fun h2 => ?_)
    · refine JC_seq ?_
      refine JC_region ?_
      refine JL_pd rfl (det_assign rfl) ?_
      refine JL_nil ?_
      refine JE_seq ?_
      refine JC_ret ?_
      refine JE_seq_ret ?_
      refine JE_out (.inl rfl) () (results1 Try.results21 (res_tmp rfl)) ?_ (List.Perm.refl _) (fun _ _ => trivial)
      (simp_all [startErr])
    · refine JC_skip ?_
      refine JE_seq ?_
      refine JC_seq ?_
      refine JC_region ?_
      refine JL_pd rfl (det_assign rfl) ?_
      refine JL_nil ?_
      refine JE_seq ?_
      refine JC_ret ?_
      refine JE_out (.inl rfl) () (results1 Try.results21 (res_tmp rfl)) ?_ (List.Perm.refl _) (fun _ _ => trivial)
      (simp_all [startErr])
theorem lready_j (l : La) (s : St) (ha pa : Option Addr) (hc pc : Nat) : Cv Try.prog 36 [.agg #[I l.boards, I l.rows, .slice ha l.hooks.length hc, .slice pa l.patches.length pc], .agg #[I s.b, I s.d]] (KLane l ha hc pa pc) (.bool (thin l && decide (startErr l s = 0))) := by
  refine Cx_of Try.func36 rfl Try.ntmps36 rfl fun w0 M0 => ?_
  refine JC_seq ?_
  refine JC_region ?_
  refine JL_step rfl rfl rfl (jo_box rfl rfl) fun b2 => ?_
  refine JL_step rfl rfl rfl (jo_box rfl rfl) fun b3 => ?_
  refine JL_pd rfl (det_assign rfl) ?_
  refine JL_nil ?_
  refine JE_seq ?_
  refine JC_seq ?_
  refine JC_region ?_
  refine JL_dt rfl (det_loadKA rfl Try.isAgg25 Try.sizeOf25 rfl rfl) ?_
  refine JL_step rfl rfl rfl (jo_callv rfl rfl Try.call40 rfl (lThin_j l ha pa hc pc)) fun _ => ?_
  refine JL_pd rfl (det_move rfl) ?_
  refine JL_split (d0 := 7) rfl (fun h1 => ?_) (fun h1 => ?_)
  · refine JL_guard rfl rfl h1 ?_
    refine JL_dt rfl (det_loadKA rfl Try.isAgg25 Try.sizeOf25 rfl rfl) ?_
    refine JL_guard rfl rfl h1 ?_
    refine JL_dt rfl (det_loadKA rfl Try.isAgg27 Try.sizeOf27 rfl rfl) ?_
    refine JL_guard rfl rfl h1 ?_
    refine JL_step rfl rfl rfl (jo_callv rfl rfl Try.call21 rfl (lstarted_j l s ha pa hc pc)) fun _ => ?_
    refine JL_guard rfl rfl h1 ?_
    refine JL_pd rfl (det_eql rfl rfl) ?_
    refine JL_pd rfl (det_pick_t rfl h1 rfl) ?_
    refine JL_pd rfl (det_assign rfl) ?_
    refine JL_nil ?_
    refine JE_seq ?_
    refine JC_ret ?_
    refine JE_out (.inl rfl) () (results1 Try.results36 (res_tmp rfl)) ?_ (List.Perm.refl _) (fun _ _ => trivial)
    (simp_all)
  · refine JL_skip rfl rfl h1 rfl ?_
    refine JL_skip rfl rfl h1 rfl ?_
    refine JL_skip rfl rfl h1 rfl ?_
    refine JL_skip rfl rfl h1 rfl ?_
    refine JL_pd rfl (det_pick_f rfl h1 rfl) ?_
    refine JL_pd rfl (det_assign rfl) ?_
    refine JL_nil ?_
    refine JE_seq ?_
    refine JC_ret ?_
    refine JE_out (.inl rfl) () (results1 Try.results36 (res_tmp rfl)) ?_ (List.Perm.refl _) (fun _ _ => trivial)
    (simp_all)
end Go.Proofs.Ytcfhbnfincpehaa

/- Walks of the statements about path: Lane. -/
namespace Go.Proofs.Ytcfhbnfincpehaa
open Go.RowKit Go.Shelf

theorem take_snoc {α : Type} {l : List α} {i : Nat} (h : i < l.length) : l.take (i + 1) = l.take i ++ [l[i]] := by
  rw [List.take_add_one, List.getElem?_eq_getElem h]; rfl
set_option maxRecDepth 100000 in
theorem lLane_j (l : La) (ha pa : Option Addr) (hc pc : Nat) (hl : l.hooks.length ≤ 1000000) (pl : l.patches.length ≤ 1000000) : Cr Try.prog 19 [.agg #[I l.boards, I l.rows, .slice ha l.hooks.length hc, .slice pa l.patches.length pc]] (KLane l ha hc pa pc) (fun q : (Option Addr × Nat) × Option Addr × Nat => .agg #[I l.boards, I l.rows, .slice q.1.1 l.hooks.length q.1.2, .slice q.2.1 l.patches.length q.2.2])
    (fun q => KLane l q.1.1 q.1.2 q.2.1 q.2.2) := by
  refine Cx_of Try.func19 rfl Try.ntmps19 rfl fun w0 M0 => ?_
  refine JC_seq ?_
  refine JC_region ?_
  refine JL_step rfl rfl rfl (jo_box rfl rfl) fun b1 => ?_
  refine JL_step rfl rfl rfl (jo_alloc0 Try.zeroValue37 rfl) fun b2 => ?_
  refine JL_nil ?_
  refine JE_seq ?_
  refine JC_seq ?_
  refine JC_region ?_
  refine JL_pd rfl (det_fieldAddr rfl fo_25_0) ?_
  refine JL_dt rfl (det_loadK rfl Try.isAgg3 rfl) ?_
  refine JL_pd rfl (det_fieldAddr rfl fo_25_1) ?_
  refine JL_dt rfl (det_loadK rfl Try.isAgg3 rfl) ?_
  refine JL_pd rfl (det_build rfl (bld_37_0_1 _ _)) ?_
  refine JL_step rfl rfl rfl (jo_alloc0 Try.zeroValue37 rfl) fun b3 => ?_
  refine JL_step0 rfl rfl (jo_store rfl rfl rfl (by first | (simp only [splice_norm]; done) | (simp only [splice_norm]; rfl) | rfl) Try.sizeOf37 rfl rfl) fun _ => ?_
  refine JL_nil ?_
  refine JE_seq ?_
  refine JC_seq ?_
  refine JC_seq ?_
  refine JC_region ?_
  refine JL_pd rfl (det_assign rfl) ?_
  refine JL_nil ?_
  refine JE_seq ?_
  refine JC_block ?_
  -- stop: loop
  refine JC_nil 49 2 ?_
  refine JC_loop (γ := Nat × Value) (I := fun q => q.1 ≤ l.hooks.length)
    (st' := fun q => [(4, I q.1), (3, pt b3), (2, pt b2), (1, pt b1)]) (H' := fun q => [ow q.2 49 2 q.1 ((l.hooks.take q.1).flatMap encRg), bx b3 [I l.boards, I l.rows, q.2, .slice none 0 0], bx b2 [I 0, I 0, .slice none 0 0, .slice none 0 0], bx b1 [I l.boards, I l.rows, .slice ha l.hooks.length hc, .slice pa l.patches.length pc]])
    (R' := fun _ => KLane l ha hc pa pc) (μ := fun q => l.hooks.length - q.1) (0, .slice none 0 0) (by simp) (stsub_cons rfl (stsub_cons rfl (stsub_cons rfl (stsub_cons rfl stsub_nil)))) (show HSub _ [ow (.slice none 0 0) 49 2 0 [], bx b3 _, bx b2 _, bx b1 _] from hsub_cons (hsub_cons (hsub_cons (hsub_cons hsub_nil)))) (Knows.know) ?_
  rintro ⟨i, v⟩ hi K hK
  dsimp only at hi ⊢
  refine JC_seq ?_
  refine JC_seq ?_
  refine JC_region ?_
  refine JL_pd rfl (det_move rfl) ?_
  refine JL_pd rfl (det_fieldAddr rfl fo_25_2) ?_
  refine JL_dt rfl (det_loadK rfl Try.isAgg22 rfl) ?_
  refine JL_pd rfl (det_len rfl Try.runUnderlying22) ?_
  refine JL_pd rfl (det_lss rfl rfl) ?_
  refine JL_nil ?_
  refine JE_seq ?_
  -- stop: cond
  refine JC_if rfl (fun h1 => ?_) (fun h1 => ?_)
  · refine JC_skip ?_
    refine JE_seq ?_
    refine JC_seq ?_
    refine JC_block ?_
    refine JC_draw [9, 11] (by kernel_rfl) ?_
    refine JA_pd (i := 0) rfl (by kernel_rfl) rfl rfl (det_fieldAddr rfl fo_37_2) ?_
    refine JA_dt (i := 1) rfl (by kernel_rfl) (by kernel_rfl) rfl rfl (det_loadK rfl Try.isAgg34 rfl) ?_
    refine JA_pd (i := 2) rfl (by kernel_rfl) rfl rfl (det_fieldAddr rfl fo_25_2) ?_
    refine JA_dt (i := 3) rfl (by kernel_rfl) (by kernel_rfl) rfl rfl (det_loadK rfl Try.isAgg22 rfl) ?_
    refine JA_pd (i := 4) rfl (by kernel_rfl) rfl rfl (det_move rfl) ?_
    refine JA_dt (i := 5) rfl (by kernel_rfl) (by kernel_rfl) rfl rfl (det_indexAddr rfl rfl (by first | rfl | omega) (by first | assumption | omega | decide) Try.runUnderlying22 Try.sizeOf53) ?_
    refine JA_dt (i := 6) rfl (by kernel_rfl) (by kernel_rfl) rfl rfl (det_loadEA rfl (by first | assumption | omega | decide) Try.isAgg53 Try.sizeOf53 rfl rfl rfl) ?_
    -- stop: op  7 t26 := (call (Call (value f26) (t25) (53)))   <6>   25
    have hi2 : i < l.hooks.length := by omega
    refine JA_one (i := 7) (by kernel_rfl) rfl rfl (jo_callv rfl rfl Try.call26 rfl (lTo_j l.hooks[i])) (fun _ => ⟨hsub_refl, fun _ h => h⟩) fun _ => ?_
    refine JA_one (i := 8) (by kernel_rfl) rfl rfl (jo_buildSlice rfl (bsl_34_1_0 _ _)) (fun _ => ⟨hsub_drop 1 rfl, fun _ h => h⟩) fun b27 => ?_
    refine JA_tail (i := 9) (by kernel_rfl) rfl rfl rfl rfl (jo_append el_34 rfl rfl rfl rfl (by omega)) fun b28 => ?_
    refine JT_pd (i := 10) rfl (by kernel_rfl) rfl rfl (det_fieldAddr rfl fo_37_2) ?_
    refine JT_one (i := 11) (by kernel_rfl) rfl rfl (jo_store rfl rfl rfl (by first | (simp only [splice_norm]; done) | (simp only [splice_norm]; rfl) | rfl) Try.sizeOf34 rfl rfl) fun _ => ?_
    refine JT_done (by kernel_rfl) ?_
    refine JE_block ?_
    refine JE_seq ?_
    refine JC_region ?_
    refine JL_pd rfl (det_move rfl) ?_
    refine JL_pd rfl (det_add rfl rfl ⟨by omega, by omega⟩) ?_
    refine JL_pd rfl (det_assign rfl) ?_
    refine JL_nil ?_
    -- stop: end
    refine JE_round hK (i + 1, .slice (some ⟨b28.1, 0, none⟩) (i + 1) b28.2) (by simp only; omega) (by simp only; omega) ?_ ?_ Knows.know
    · exact stsub_consI rfl (by omega) (stsub_cons rfl (stsub_cons rfl (stsub_cons rfl stsub_nil)))
    · exact hsub_ow rfl (by simp only [take_snoc hi2, List.flatMap_append, List.flatMap_cons, List.flatMap_nil, encRg, List.append_nil]) (hsub_cons (hsub_cons (hsub_cons hsub_nil)))
  · refine JC_exit ?_
    refine JE_seq_exit ?_
    refine JE_then_exit ?_
    refine JE_block_here ?_
    refine JE_seq ?_
    refine JC_seq ?_
    refine JC_seq ?_
    refine JC_region ?_
    refine JL_pd rfl (det_assign rfl) ?_
    refine JL_nil ?_
    refine JE_seq ?_
    refine JC_block ?_
    -- stop: loop
    obtain rfl : i = l.hooks.length := by omega
    refine JC_nil 116 5 ?_
    refine JC_loop (γ := Nat × Value) (I := fun q => q.1 ≤ l.patches.length)
      (st' := fun q => [(5, I q.1), (3, pt b3), (2, pt b2), (1, pt b1)]) (H' := fun q => [ow q.2 116 5 q.1 ((l.patches.take q.1).flatMap encPa), ow v 49 2 l.hooks.length (l.hooks.flatMap encRg), bx b3 [I l.boards, I l.rows, v, q.2], bx b2 [I 0, I 0, .slice none 0 0, .slice none 0 0], bx b1 [I l.boards, I l.rows, .slice ha l.hooks.length hc, .slice pa l.patches.length pc]])
      (R' := fun _ => KLane l ha hc pa pc) (μ := fun q => l.patches.length - q.1) (0, .slice none 0 0) (by simp) (stsub_cons rfl (stsub_cons rfl (stsub_cons rfl (stsub_cons rfl stsub_nil)))) (show HSub _ [ow (.slice none 0 0) 116 5 0 [], ow _ _ _ _ _, bx b3 _, bx b2 _, bx b1 _] from hsub_cons (hsub_ow rfl (by rw [List.take_length]) (hsub_cons (hsub_cons (hsub_cons hsub_nil))))) (Knows.know) ?_
    rintro ⟨j, u⟩ hj K2 hK2
    dsimp only at hj ⊢
    refine JC_seq ?_
    refine JC_seq ?_
    refine JC_region ?_
    refine JL_pd rfl (det_move rfl) ?_
    refine JL_pd rfl (det_fieldAddr rfl fo_25_3) ?_
    refine JL_dt rfl (det_loadK rfl Try.isAgg23 rfl) ?_
    refine JL_pd rfl (det_len rfl Try.runUnderlying23) ?_
    refine JL_pd rfl (det_lss rfl rfl) ?_
    refine JL_nil ?_
    refine JE_seq ?_
    -- stop: cond
    refine JC_if rfl (fun h2 => ?_) (fun h2 => ?_)
    · refine JC_skip ?_
      refine JE_seq ?_
      refine JC_seq ?_
      refine JC_block ?_
      refine JC_seq ?_
      refine JC_region ?_
      refine JL_pd rfl (det_fieldAddr rfl fo_25_3) ?_
      refine JL_dt rfl (det_loadK rfl Try.isAgg23 rfl) ?_
      refine JL_pd rfl (det_move rfl) ?_
      refine JL_dt rfl (det_indexAddr rfl rfl (by first | rfl | omega) (by first | assumption | omega | decide) Try.runUnderlying23 Try.sizeOf89) ?_
      refine JL_dt rfl (det_loadEA rfl (by first | assumption | omega | decide) Try.isAgg89 Try.sizeOf89 rfl rfl rfl) ?_
      refine JL_step rfl rfl rfl (jo_alloc0 Try.zeroValue89 rfl) fun b6 => ?_
      refine JL_step0 rfl rfl (jo_store rfl rfl rfl (by first | (simp only [splice_norm]; done) | (simp only [splice_norm]; rfl) | rfl) Try.sizeOf89 rfl rfl) fun _ => ?_
      refine JL_nil ?_
      refine JE_seq ?_
      refine JC_draw [12, 14] (by kernel_rfl) ?_
      refine JA_pd (i := 0) rfl (by kernel_rfl) rfl rfl (det_fieldAddr rfl fo_37_3) ?_
      refine JA_dt (i := 1) rfl (by kernel_rfl) (by kernel_rfl) rfl rfl (det_loadK rfl Try.isAgg35 rfl) ?_
      refine JA_pd (i := 2) rfl (by kernel_rfl) rfl rfl (det_fieldAddr rfl fo_89_0) ?_
      refine JA_dt (i := 3) rfl (by kernel_rfl) (by kernel_rfl) rfl rfl (det_loadKA rfl Try.isAgg53 Try.sizeOf53 rfl rfl) ?_
      refine JA_pd (i := 5) rfl (by kernel_rfl) rfl rfl (det_fieldAddr rfl fo_89_1) ?_
      refine JA_dt (i := 6) rfl (by kernel_rfl) (by kernel_rfl) rfl rfl (det_loadKA rfl Try.isAgg53 Try.sizeOf53 rfl rfl) ?_
      refine JA_pd (i := 8) rfl (by kernel_rfl) rfl rfl (det_fieldAddr rfl fo_89_2) ?_
      refine JA_dt (i := 9) rfl (by kernel_rfl) (by kernel_rfl) rfl rfl (det_loadK rfl Try.isAgg3 rfl) ?_
      -- stop: op  4 t46 := (call (Call (value f26) (t45) (53)))   <3>   29
      have hj2 : j < l.patches.length := by omega
      refine JA_one (i := 4) (by kernel_rfl) rfl rfl (jo_callv rfl rfl Try.call26 rfl (lTo_j l.patches[j].rows)) (fun _ => ⟨hsub_refl, fun _ h => h⟩) fun _ => ?_
      -- stop: op  7 t49 := (call (Call (value f26) (t48) (53)))   <6 4>   29
      refine JA_one (i := 7) (by kernel_rfl) rfl rfl (jo_callv rfl rfl Try.call26 rfl (lTo_j l.patches[j].boards)) (fun _ => ⟨hsub_refl, fun _ h => h⟩) fun _ => ?_
      refine JA_pd (i := 10) rfl (by kernel_rfl) rfl rfl (det_build rfl (bld_116_0_1_2 _ _ _ _ _)) ?_
      refine JA_one (i := 11) (by kernel_rfl) rfl rfl (jo_buildSlice rfl (bsl_35_1_0 _ _ _ _ _)) (fun _ => ⟨hsub_drop 1 rfl, fun _ h => h⟩) fun b53 => ?_
      refine JA_tail (i := 12) (by kernel_rfl) rfl rfl rfl rfl (jo_append el_35 rfl rfl rfl rfl (by omega)) fun b54 => ?_
      refine JT_pd (i := 13) rfl (by kernel_rfl) rfl rfl (det_fieldAddr rfl fo_37_3) ?_
      refine JT_one (i := 14) (by kernel_rfl) rfl rfl (jo_store rfl rfl rfl (by first | (simp only [splice_norm]; done) | (simp only [splice_norm]; rfl) | rfl) Try.sizeOf35 rfl rfl) fun _ => ?_
      refine JT_done (by kernel_rfl) ?_
      refine JE_block ?_
      refine JE_seq ?_
      refine JC_region ?_
      refine JL_pd rfl (det_move rfl) ?_
      refine JL_pd rfl (det_add rfl rfl ⟨by omega, by omega⟩) ?_
      refine JL_pd rfl (det_assign rfl) ?_
      refine JL_nil ?_
      -- stop: end
      refine JE_round hK2 (j + 1, .slice (some ⟨b54.1, 0, none⟩) (j + 1) b54.2) (by simp only; omega) (by simp only; omega) ?_ ?_ Knows.know
      · exact stsub_consI rfl (by omega) (stsub_cons rfl (stsub_cons rfl (stsub_cons rfl stsub_nil)))
      · exact hsub_ow rfl (by simp only [take_snoc hj2, List.flatMap_append, List.flatMap_cons, List.flatMap_nil, encPa, List.append_nil]) (hsub_cons (hsub_cons (hsub_cons (hsub_cons hsub_nil))))
    · obtain rfl : j = l.patches.length := by omega
      refine JC_slice (enc := encRg) (v := v) l.hooks noFp rfl rfl ?_
      rintro a cap rfl
      refine JC_slice (enc := encPa) (v := u) l.patches noFp (by rw [List.take_length]) rfl ?_
      rintro a2 cap2 rfl
      refine JC_exit ?_
      refine JE_seq_exit ?_
      refine JE_then_exit ?_
      refine JE_block_here ?_
      refine JE_seq ?_
      refine JC_seq ?_
      refine JC_region ?_
      refine JL_dt rfl (det_loadKA rfl Try.isAgg37 Try.sizeOf37 rfl rfl) ?_
      refine JL_step0 rfl rfl (jo_store rfl rfl rfl (by first | (simp only [splice_norm]; done) | (simp only [splice_norm]; rfl) | rfl) Try.sizeOf37 rfl rfl) fun _ => ?_
      refine JL_nil ?_
      refine JE_seq ?_
      refine JC_ret ?_
      -- stop: out
      refine JE_out (.inl rfl) ((a, cap), a2, cap2) (results1 Try.results19 (res_box rfl Try.isAgg37 Try.sizeOf37 rfl)) rfl (List.Perm.refl _) (fun w h => ⟨h.2.1, h.1⟩)
end Go.Proofs.Ytcfhbnfincpehaa

/- Walks of the statements about path: has, every, oiled; of the reference: Hook. -/
namespace Go.Proofs.Ytcfhbnfincpehaa
open Go.RowKit Go.Shelf

theorem KSl_of_box {α : Type} {enc : α → List Value} {xs : List α} {b n : Nat} {cs : List Value} {w : World} (hc : cs = xs.flatMap enc) (hn : n = xs.length) (hm : n ≤ maxLen) (h : Box w b cs) : KSl (some ⟨b, 0, none⟩) n n enc xs w := by
  subst hc
  refine ⟨⟨Nat.le_refl _, hm, fun h => (by cases h), fun _ => ⟨b, 0, rfl, h.lt, fun i c hi => ?_⟩⟩, hn⟩
  have := h.cell i hi
  simpa using this
set_option maxRecDepth 100000 in
theorem lhas_j (xs : List St) (a : Option Addr) (cap : Nat) (s : St) (hx : xs.length ≤ 1000000) : Cv Try.prog 46 [.slice a xs.length cap, .agg #[I s.b, I s.d]] (KSl a xs.length cap encSt xs) (.bool (decide (s ∈ xs))) := by
  refine Cx_of Try.func46 rfl Try.ntmps46 rfl fun w0 M0 => ?_
  refine JC_seq ?_
  refine JC_region ?_
  refine JL_step rfl rfl rfl (jo_box rfl rfl) fun b3 => ?_
  refine JL_pd rfl (det_assign rfl) ?_
  refine JL_nil ?_
  refine JE_seq ?_
  refine JC_seq ?_
  refine JC_seq ?_
  refine JC_region ?_
  refine JL_pd rfl (det_assign rfl) ?_
  refine JL_nil ?_
  refine JE_seq ?_
  refine JC_block ?_
  -- stop: loop
  refine JC_loop (γ := Nat) (I := fun i => i ≤ xs.length ∧ s ∉ xs.take i) (st' := fun i => [(5, I i), (3, pt b3), (0, .slice a xs.length cap)]) (H' := fun _ => [bx b3 [I s.b, I s.d]])
    (R' := fun _ => KSl a xs.length cap encSt xs) (μ := fun i => xs.length - i) 0 ⟨by omega, by simp⟩ (stsub_cons rfl (stsub_cons rfl (stsub_cons rfl stsub_nil))) (hsub_cons hsub_nil) Knows.know ?_
  rintro i ⟨hi, hno⟩ K hK
  refine JC_seq ?_
  refine JC_seq ?_
  refine JC_region ?_
  refine JL_pd rfl (det_move rfl) ?_
  refine JL_pd rfl (det_move rfl) ?_
  refine JL_pd rfl (det_len rfl Try.runUnderlying30) ?_
  refine JL_pd rfl (det_lss rfl rfl) ?_
  refine JL_nil ?_
  refine JE_seq ?_
  -- stop: cond
  refine JC_if rfl (fun h1 => ?_) (fun h1 => ?_)
  · refine JC_skip ?_
    refine JE_seq ?_
    refine JC_seq ?_
    refine JC_block ?_
    refine JC_seq ?_
    refine JC_draw [] (by kernel_rfl) ?_
    refine JA_pd (i := 0) rfl (by kernel_rfl) rfl rfl (det_move rfl) ?_
    refine JA_pd (i := 1) rfl (by kernel_rfl) rfl rfl (det_move rfl) ?_
    refine JA_dt (i := 2) rfl (by kernel_rfl) (by kernel_rfl) rfl rfl (det_indexAddr rfl rfl (by first | rfl | omega) (by first | assumption | omega | decide) Try.runUnderlying30 Try.sizeOf39) ?_
    refine JA_dt (i := 3) rfl (by kernel_rfl) (by kernel_rfl) rfl rfl (det_loadEA rfl (by first | assumption | omega | decide) Try.isAgg39 Try.sizeOf39 rfl rfl rfl) ?_
    refine JA_dt (i := 4) rfl (by kernel_rfl) (by kernel_rfl) rfl rfl (det_loadKA rfl Try.isAgg39 Try.sizeOf39 rfl rfl) ?_
    refine JA_pd (i := 5) rfl (by kernel_rfl) rfl rfl (det_eqlA rfl rfl egt_39 (eqa_39 _ _ _ _)) ?_
    refine JA_done (by kernel_rfl) ?_
    refine JE_seq ?_
    -- stop: cond
    have hi2 : i < xs.length := by omega
    -- stop: cond
    refine JC_cond rfl (fun h2 => ?_) (fun h2 => ?_)
    · refine JC_seq ?_
      refine JC_region ?_
      refine JL_pd rfl (det_assign rfl) ?_
      refine JL_nil ?_
      refine JE_seq ?_
      refine JC_ret ?_
      refine JE_block_ret ?_
      refine JE_seq_ret ?_
      refine JE_then_ret ?_
      refine JE_block_ret ?_
      refine JE_seq_ret ?_
      -- stop: out
      simp only [decide_eq_true_eq] at h2
      refine JE_out (.inl rfl) () (results1 Try.results46 (res_tmp rfl)) (by rw [decide_eq_true]; rw [show s = xs[i] from St.ext'.2 ⟨h2.1.symm, h2.2.symm⟩]; exact List.getElem_mem _) (List.Perm.refl _) (fun _ _ => trivial)
    · refine JC_skip ?_
      refine JE_block ?_
      refine JE_seq ?_
      refine JC_region ?_
      refine JL_pd rfl (det_move rfl) ?_
      refine JL_pd rfl (det_add rfl rfl ⟨by omega, by omega⟩) ?_
      refine JL_pd rfl (det_assign rfl) ?_
      refine JL_nil ?_
      -- stop: end
      simp only [decide_eq_false_iff_not] at h2
      refine JE_round hK (i + 1) ⟨by omega, ?_⟩ (by omega) (stsub_consI rfl (by omega) (stsub_cons rfl (stsub_cons rfl stsub_nil))) (hsub_cons hsub_nil) Knows.know
      rw [take_snoc hi2]
      simp only [List.mem_append, List.mem_singleton, not_or]
      exact ⟨hno, fun e => h2 ⟨by rw [e], by rw [e]⟩⟩
  · refine JC_exit ?_
    refine JE_seq_exit ?_
    refine JE_then_exit ?_
    refine JE_block_here ?_
    refine JE_seq ?_
    refine JC_seq ?_
    refine JC_region ?_
    refine JL_pd rfl (det_assign rfl) ?_
    refine JL_nil ?_
    refine JE_seq ?_
    refine JC_ret ?_
    -- stop: out
    refine JE_out (.inl rfl) () (results1 Try.results46 (res_tmp rfl)) (by rw [decide_eq_false]; rwa [List.take_of_length_le (by omega)] at hno) (List.Perm.refl _) (fun _ _ => trivial)
def everyB (xs ys : List St) : Bool := xs.all fun x => decide (x ∈ ys)
set_option maxRecDepth 100000 in
theorem levery_j (xs ys : List St) (a a' : Option Addr) (cap cap' : Nat) (hx : xs.length ≤ 1000000) (hy : ys.length ≤ 1000000) :
    Cv Try.prog 39 [.slice a xs.length cap, .slice a' ys.length cap'] (KAnd (KSl a xs.length cap encSt xs) (KSl a' ys.length cap' encSt ys)) (.bool (everyB xs ys)) := by
  refine Cx_of Try.func39 rfl Try.ntmps39 rfl fun w0 M0 => ?_
  refine JC_seq ?_
  refine JC_region ?_
  refine JL_pd rfl (det_assign rfl) ?_
  refine JL_nil ?_
  refine JE_seq ?_
  refine JC_seq ?_
  refine JC_seq ?_
  refine JC_region ?_
  refine JL_pd rfl (det_assign rfl) ?_
  refine JL_nil ?_
  refine JE_seq ?_
  refine JC_block ?_
  -- stop: loop
  refine JC_loop (γ := Nat) (I := fun i => i ≤ xs.length ∧ (xs.take i).all (fun x => decide (x ∈ ys)) = true) (st' := fun i => [(5, I i), (1, .slice a' ys.length cap'), (0, .slice a xs.length cap)]) (H' := fun _ => [])
    (R' := fun _ => KAnd (KSl a xs.length cap encSt xs) (KSl a' ys.length cap' encSt ys)) (μ := fun i => xs.length - i) 0 ⟨by omega, by simp⟩ (stsub_cons rfl (stsub_cons rfl (stsub_cons rfl stsub_nil))) hsub_nil Knows.know ?_
  rintro i ⟨hi, hno⟩ K hK
  refine JC_seq ?_
  refine JC_seq ?_
  refine JC_region ?_
  refine JL_pd rfl (det_move rfl) ?_
  refine JL_pd rfl (det_move rfl) ?_
  refine JL_pd rfl (det_len rfl Try.runUnderlying30) ?_
  refine JL_pd rfl (det_lss rfl rfl) ?_
  refine JL_nil ?_
  refine JE_seq ?_
  -- stop: cond
  refine JC_if rfl (fun h1 => ?_) (fun h1 => ?_)
  · refine JC_skip ?_
    refine JE_seq ?_
    refine JC_seq ?_
    refine JC_block ?_
    refine JC_seq ?_
    refine JC_region ?_
    refine JL_pd rfl (det_move rfl) ?_
    refine JL_pd rfl (det_move rfl) ?_
    refine JL_pd rfl (det_move rfl) ?_
    refine JL_dt rfl (det_indexAddr rfl rfl (by first | rfl | omega) (by first | assumption | omega | decide) Try.runUnderlying30 Try.sizeOf39) ?_
    refine JL_dt rfl (det_loadEA rfl (by first | assumption | omega | decide) Try.isAgg39 Try.sizeOf39 rfl rfl rfl) ?_
    -- stop: op  5 t17 := (call (Call (value f46) (t12 t16) (30 39)))   <0 4>   150
    have hi2 : i < xs.length := by omega
    refine JL_step rfl rfl rfl (jo_callv rfl rfl Try.call46 rfl (lhas_j ys a' cap' xs[i] hy)) fun _ => ?_
    refine JL_pd rfl (det_not rfl) ?_
    refine JL_nil ?_
    refine JE_seq ?_
    -- stop: cond
    refine JC_cond rfl (fun h2 => ?_) (fun h2 => ?_)
    · refine JC_seq ?_
      refine JC_region ?_
      refine JL_pd rfl (det_assign rfl) ?_
      refine JL_nil ?_
      refine JE_seq ?_
      refine JC_ret ?_
      refine JE_block_ret ?_
      refine JE_seq_ret ?_
      refine JE_then_ret ?_
      refine JE_block_ret ?_
      refine JE_seq_ret ?_
      -- stop: out
      simp at h2
      refine JE_out (.inl rfl) () (results1 Try.results39 (res_tmp rfl)) (by rw [show everyB xs ys = false from by unfold everyB; rw [List.all_eq_false]; exact ⟨xs[i], List.getElem_mem _, by simpa using h2⟩]) (List.Perm.refl _) (fun _ _ => trivial)
    · refine JC_skip ?_
      refine JE_block ?_
      refine JE_seq ?_
      refine JC_region ?_
      refine JL_pd rfl (det_move rfl) ?_
      refine JL_pd rfl (det_add rfl rfl ⟨by omega, by omega⟩) ?_
      refine JL_pd rfl (det_assign rfl) ?_
      refine JL_nil ?_
      -- stop: end
      simp at h2
      refine JE_round hK (i + 1) ⟨by omega, ?_⟩ (by omega) (stsub_consI rfl (by omega) (stsub_cons rfl (stsub_cons rfl stsub_nil))) hsub_nil Knows.know
      rw [take_snoc hi2, List.all_append, hno]
      simp [h2]
  · refine JC_exit ?_
    refine JE_seq_exit ?_
    refine JE_then_exit ?_
    refine JE_block_here ?_
    refine JE_seq ?_
    refine JC_seq ?_
    refine JC_region ?_
    refine JL_pd rfl (det_assign rfl) ?_
    refine JL_nil ?_
    refine JE_seq ?_
    refine JC_ret ?_
    -- stop: out
    refine JE_out (.inl rfl) () (results1 Try.results39 (res_tmp rfl)) (by rw [List.take_of_length_le (by omega)] at hno; rw [show everyB xs ys = true from hno]) (List.Perm.refl _) (fun _ _ => trivial)
def oiledL : La := ⟨20, 5, [⟨-1, -1⟩, ⟨-1, 0⟩], [⟨⟨0, 0⟩, ⟨1, 20⟩, 1⟩]⟩
theorem loiled_j : Cr Try.prog 52 [] KTrue (fun q : (Option Addr × Nat) × Option Addr × Nat => .agg #[I oiledL.boards, I oiledL.rows, .slice q.1.1 oiledL.hooks.length q.1.2, .slice q.2.1 oiledL.patches.length q.2.2])
    (fun q => KLane oiledL q.1.1 q.1.2 q.2.1 q.2.2) := by
  refine Cx_of Try.func52 rfl Try.ntmps52 rfl fun w0 M0 => ?_
  refine JC_seq ?_
  refine JC_region ?_
  refine JL_step rfl rfl rfl (jo_alloc0 Try.zeroValue37 rfl) fun b0 => ?_
  refine JL_nil ?_
  refine JE_seq ?_
  refine JC_seq ?_
  refine JC_region ?_
  refine JL_step rfl rfl rfl (jo_callv rfl rfl Try.call54 rfl (lbetween_j _ _)) fun _ => ?_
  refine JL_step rfl rfl rfl (jo_callv rfl rfl Try.call54 rfl (lbetween_j _ _)) fun _ => ?_
  refine JL_step rfl rfl rfl (jo_buildSlice rfl (bsl_34_2_0_1 _ _ _ _)) fun b3 => ?_
  refine JL_step rfl rfl rfl (jo_callv rfl rfl Try.call54 rfl (lbetween_j _ _)) fun _ => ?_
  refine JL_step rfl rfl rfl (jo_callv rfl rfl Try.call54 rfl (lbetween_j _ _)) fun _ => ?_
  refine JL_pd rfl (det_build rfl (bld_116_0_1_2 _ _ _ _ _)) ?_
  refine JL_step rfl rfl rfl (jo_buildSlice rfl (bsl_35_1_0 _ _ _ _ _)) fun b7 => ?_
  refine JL_pd rfl (det_build rfl (bld_37_0_1_2_3 _ _ _ _ _ _ _ _)) ?_
  refine JL_step0 rfl rfl (jo_store rfl rfl rfl (by first | (simp only [splice_norm]; done) | (simp only [splice_norm]; rfl) | rfl) Try.sizeOf37 rfl rfl) fun _ => ?_
  refine JL_nil ?_
  refine JE_seq ?_
  refine JC_ret ?_
  -- stop: out
  refine JE_freeze (bx b3 [I (-1), I (-1), I (-1), I 0]) noFp ?_
  refine JE_freeze (bx b7 [I 0, I 0, I 1, I 20, I 1]) noFp ?_
  refine JE_out (.inl rfl) ((some ⟨b3, 0, none⟩, 2), some ⟨b7, 0, none⟩, 1) (results1 Try.results52 (res_box rfl Try.isAgg37 Try.sizeOf37 rfl)) rfl (List.Perm.refl _) (fun w h => ⟨KSl_of_box rfl rfl (by decide) h.2.1, KSl_of_box rfl rfl (by decide) h.1⟩)
set_option maxRecDepth 100000 in
theorem rHook_j (l : La) (row board : Int) (ha pa : Option Addr) (hc pc : Nat) (V : Valid l) : Cv Try.prog 37 [.agg #[I l.boards, I l.rows, .slice ha l.hooks.length hc, .slice pa l.patches.length pc], I row, I board] (KLane l ha hc pa pc) (.agg #[I (hookOf l row board).lo, I (hookOf l row board).hi]) := by
  have v1 := V.np
  have v2 := V.nh
  have v3 := V.h0
  have lv := levelOf_bd V row board
  refine Cx_of Try.func37 rfl Try.ntmps37 rfl fun w0 M0 => ?_
  refine JC_seq ?_
  refine JC_region ?_
  refine JL_step rfl rfl rfl (jo_box rfl rfl) fun b3 => ?_
  refine JL_step rfl rfl rfl (jo_alloc0 Try.zeroValue53 rfl) fun b6 => ?_
  refine JL_nil ?_
  refine JE_seq ?_
  refine JC_seq ?_
  refine JC_region ?_
  refine JL_pd rfl (det_assign rfl) ?_
  refine JL_nil ?_
  refine JE_seq ?_
  refine JC_seq ?_
  refine JC_seq ?_
  refine JC_region ?_
  refine JL_pd rfl (det_assign rfl) ?_
  refine JL_nil ?_
  refine JE_seq ?_
  refine JC_block ?_
  -- stop: loop
  refine JC_loop (γ := Nat) (I := fun i => i ≤ l.patches.length) (st' := fun i => [(8, I i), (7, I (levelOf (l.patches.take i) row board)), (6, pt b6), (3, pt b3), (2, I board), (1, I row)]) (H' := fun _ => [bx b6 [I 0, I 0], bx b3 [I l.boards, I l.rows, .slice ha l.hooks.length hc, .slice pa l.patches.length pc]])
    (R' := fun _ => KLane l ha hc pa pc) (μ := fun i => l.patches.length - i) 0 (by omega) (stsub_cons rfl (stsub_cons rfl (stsub_cons rfl (stsub_cons rfl (stsub_cons rfl (stsub_cons rfl stsub_nil)))))) (hsub_cons (hsub_cons hsub_nil)) Knows.know ?_
  intro i hi K hK
  refine JC_seq ?_
  refine JC_seq ?_
  refine JC_region ?_
  refine JL_pd rfl (det_move rfl) ?_
  refine JL_pd rfl (det_fieldAddr rfl fo_25_3) ?_
  refine JL_dt rfl (det_loadK rfl Try.isAgg23 rfl) ?_
  refine JL_pd rfl (det_len rfl Try.runUnderlying23) ?_
  refine JL_pd rfl (det_lss rfl rfl) ?_
  refine JL_nil ?_
  refine JE_seq ?_
  -- stop: cond
  refine JC_if rfl (fun h1 => ?_) (fun h1 => ?_)
  · refine JC_skip ?_
    refine JE_seq ?_
    refine JC_seq ?_
    refine JC_block ?_
    refine JC_seq ?_
    refine JC_region ?_
    refine JL_pd rfl (det_fieldAddr rfl fo_25_3) ?_
    refine JL_dt rfl (det_loadK rfl Try.isAgg23 rfl) ?_
    refine JL_pd rfl (det_move rfl) ?_
    refine JL_dt rfl (det_indexAddr rfl rfl (by first | rfl | omega) (by first | assumption | omega | decide) Try.runUnderlying23 Try.sizeOf89) ?_
    refine JL_dt rfl (det_loadEA rfl (by first | assumption | omega | decide) Try.isAgg89 Try.sizeOf89 rfl rfl rfl) ?_
    refine JL_step rfl rfl rfl (jo_alloc0 Try.zeroValue89 rfl) fun b9 => ?_
    refine JL_step0 rfl rfl (jo_store rfl rfl rfl (by first | (simp only [splice_norm]; done) | (simp only [splice_norm]; rfl) | rfl) Try.sizeOf89 rfl rfl) fun _ => ?_
    refine JL_nil ?_
    refine JE_seq ?_
    refine JC_seq ?_
    refine JC_region ?_
    refine JL_pd rfl (det_move rfl) ?_
    refine JL_pd rfl (det_fieldAddr rfl fo_89_0) ?_
    refine JL_pd rfl (det_fieldAddr rfl fo_53_0) ?_
    refine JL_dt rfl (det_loadK rfl Try.isAgg3 rfl) ?_
    refine JL_pd rfl (det_fieldAddr rfl fo_89_0) ?_
    refine JL_pd rfl (det_fieldAddr rfl fo_53_1) ?_
    refine JL_dt rfl (det_loadK rfl Try.isAgg3 rfl) ?_
    -- stop: op  7 t29 := (call (Call (value f22) (t22 t25 t28) (3 3 3)))   <0 3 6>   62
    have hi2 : i < l.patches.length := by omega
    have hsn := levelOf_snoc (l.patches.take i) l.patches[i] row board
    rw [← take_snoc hi2] at hsn
    refine JL_step rfl rfl rfl (jo_callv rfl rfl Try.call22 rfl (rIn_j row l.patches[i].rows.lo l.patches[i].rows.hi)) fun _ => ?_
    refine JL_pd rfl (det_move rfl) ?_
    -- stop: guard 8
    refine JL_split (d0 := 30) rfl (fun h2 => ?_) (fun h2 => ?_)
    · refine JL_guard rfl rfl h2 ?_
      refine JL_pd rfl (det_move rfl) ?_
      refine JL_guard rfl rfl h2 ?_
      refine JL_pd rfl (det_fieldAddr rfl fo_89_1) ?_
      refine JL_guard rfl rfl h2 ?_
      refine JL_pd rfl (det_fieldAddr rfl fo_53_0) ?_
      refine JL_guard rfl rfl h2 ?_
      refine JL_dt rfl (det_loadK rfl Try.isAgg3 rfl) ?_
      refine JL_guard rfl rfl h2 ?_
      refine JL_pd rfl (det_fieldAddr rfl fo_89_1) ?_
      refine JL_guard rfl rfl h2 ?_
      refine JL_pd rfl (det_fieldAddr rfl fo_53_1) ?_
      refine JL_guard rfl rfl h2 ?_
      refine JL_dt rfl (det_loadK rfl Try.isAgg3 rfl) ?_
      refine JL_guard rfl rfl h2 ?_
      -- stop: op 16 t38 := (call (Call (value f22) (t31 t34 t37) (3 3 3)))   <9 12 15 8 8>   62
      refine JL_step rfl rfl rfl (jo_callv rfl rfl Try.call22 rfl (rIn_j board l.patches[i].boards.lo l.patches[i].boards.hi)) fun _ => ?_
      refine JL_pd rfl (det_pick_t rfl h2 rfl) ?_
      refine JL_nil ?_
      refine JE_seq ?_
      -- stop: cond
      refine JC_cond rfl (fun h3 => ?_) (fun h3 => ?_)
      · refine JC_region ?_
        refine JL_pd rfl (det_fieldAddr rfl fo_89_2) ?_
        refine JL_dt rfl (det_loadK rfl Try.isAgg3 rfl) ?_
        refine JL_pd rfl (det_assign rfl) ?_
        refine JL_nil ?_
        refine JE_block ?_
        refine JE_seq ?_
        refine JC_region ?_
        refine JL_pd rfl (det_move rfl) ?_
        refine JL_pd rfl (det_add rfl rfl ⟨by omega, by omega⟩) ?_
        refine JL_pd rfl (det_assign rfl) ?_
        refine JL_nil ?_
        -- stop: end
        refine JE_round hK (i + 1) (by omega) (by omega) (stsub_consI rfl (by omega) (stsub_consI rfl (by rw [hsn, if_pos (by simp_all [inR])]) (stsub_cons rfl (stsub_cons rfl (stsub_cons rfl (stsub_cons rfl stsub_nil)))))) (hsub_cons (hsub_cons hsub_nil)) Knows.know
      · refine JC_skip ?_
        refine JE_block ?_
        refine JE_seq ?_
        refine JC_region ?_
        refine JL_pd rfl (det_move rfl) ?_
        refine JL_pd rfl (det_add rfl rfl ⟨by omega, by omega⟩) ?_
        refine JL_pd rfl (det_assign rfl) ?_
        refine JL_nil ?_
        -- stop: end
        refine JE_round hK (i + 1) (by omega) (by omega) (stsub_consI rfl (by omega) (stsub_consI rfl (by rw [hsn, if_neg (by simp_all [inR])]) (stsub_cons rfl (stsub_cons rfl (stsub_cons rfl (stsub_cons rfl stsub_nil)))))) (hsub_cons (hsub_cons hsub_nil)) Knows.know
    · refine JL_skip rfl rfl h2 rfl ?_
      refine JL_skip rfl rfl h2 rfl ?_
      refine JL_skip rfl rfl h2 rfl ?_
      refine JL_skip rfl rfl h2 rfl ?_
      refine JL_skip rfl rfl h2 rfl ?_
      refine JL_skip rfl rfl h2 rfl ?_
      refine JL_skip rfl rfl h2 rfl ?_
      refine JL_skip rfl rfl h2 rfl ?_
      refine JL_pd rfl (det_pick_f rfl h2 rfl) ?_
      refine JL_nil ?_
      refine JE_seq ?_
      -- stop: cond
      refine JC_cond rfl (fun h3 => ?_) (fun h3 => ?_)
      · refine JC_region ?_
        refine JL_pd rfl (det_fieldAddr rfl fo_89_2) ?_
        refine JL_dt rfl (det_loadK rfl Try.isAgg3 rfl) ?_
        refine JL_pd rfl (det_assign rfl) ?_
        refine JL_nil ?_
        refine JE_block ?_
        refine JE_seq ?_
        refine JC_region ?_
        refine JL_pd rfl (det_move rfl) ?_
        refine JL_pd rfl (det_add rfl rfl ⟨by omega, by omega⟩) ?_
        refine JL_pd rfl (det_assign rfl) ?_
        refine JL_nil ?_
        -- stop: end
        cases h3
      · refine JC_skip ?_
        refine JE_block ?_
        refine JE_seq ?_
        refine JC_region ?_
        refine JL_pd rfl (det_move rfl) ?_
        refine JL_pd rfl (det_add rfl rfl ⟨by omega, by omega⟩) ?_
        refine JL_pd rfl (det_assign rfl) ?_
        refine JL_nil ?_
        -- stop: end
        refine JE_round hK (i + 1) (by omega) (by omega) (stsub_consI rfl (by omega) (stsub_consI rfl (by rw [hsn, if_neg (by simp_all [inR]; grind)]) (stsub_cons rfl (stsub_cons rfl (stsub_cons rfl (stsub_cons rfl stsub_nil)))))) (hsub_cons (hsub_cons hsub_nil)) Knows.know
  · obtain ⟨n, hn⟩ : ∃ n : Nat, levelOf (l.patches.take i) row board = n := ⟨(levelOf (l.patches.take i) row board).toNat, by rw [List.take_of_length_le (by omega)]; omega⟩
    have e : l.patches.take i = l.patches := List.take_of_length_le (by omega)
    have hlv : n < l.hooks.length := by rw [e] at hn; omega
    rw [hn]
    refine JC_exit ?_
    refine JE_seq_exit ?_
    refine JE_then_exit ?_
    refine JE_block_here ?_
    refine JE_seq ?_
    refine JC_seq ?_
    refine JC_region ?_
    refine JL_pd rfl (det_fieldAddr rfl fo_25_2) ?_
    refine JL_dt rfl (det_loadK rfl Try.isAgg22 rfl) ?_
    refine JL_pd rfl (det_move rfl) ?_
    refine JL_dt rfl (det_indexAddr rfl rfl (by first | rfl | omega) (by first | assumption | omega | decide) Try.runUnderlying22 Try.sizeOf53) ?_
    refine JL_dt rfl (det_loadEA rfl (by first | assumption | omega | decide) Try.isAgg53 Try.sizeOf53 rfl rfl rfl) ?_
    refine JL_step0 rfl rfl (jo_store rfl rfl rfl (by first | (simp only [splice_norm]; done) | (simp only [splice_norm]; rfl) | rfl) Try.sizeOf53 rfl rfl) fun _ => ?_
    refine JL_nil ?_
    refine JE_seq ?_
    refine JC_ret ?_
    -- stop: out
    refine JE_out (.inl rfl) () (results1 Try.results37 (res_box rfl Try.isAgg53 Try.sizeOf53 rfl)) (by rw [show hookOf l row board = l.hooks[n] from by unfold hookOf; rw [← e, hn]; simp [List.getD_eq_getElem?_getD, hlv]]; rfl) (List.Perm.refl _) (fun _ _ => trivial)
end Go.Proofs.Ytcfhbnfincpehaa

/- Path: the states of a row as a list; Reach. -/
namespace Go.Proofs.Ytcfhbnfincpehaa
open Go.RowKit Go.Shelf

theorem mem_doneS_iff {i : Nat} {t : St} : t ∈ doneS i 0 ↔ 1 ≤ t.b ∧ t.b ≤ i ∧ -5 ≤ t.d ∧ t.d ≤ 5 := by
  refine ⟨fun h => mem_doneS h rfl, ?_⟩
  simp only [doneS, List.range_zero, List.map_nil, List.append_nil, List.mem_flatMap, List.mem_range, List.mem_map]
  rintro ⟨h1, h2, h3, h4⟩
  refine ⟨(t.b - 1).toNat, by omega, (t.d + 5).toNat, by omega, ?_⟩
  exact St.ext'.2 ⟨by dsimp only; omega, by dsimp only; omega⟩
theorem doneS_bd (i j : Nat) : ∀ x ∈ doneS i j, x.b ≤ i ∨ x.b = 1 + i ∧ x.d < -5 + j := by
  intro x hx
  simp only [doneS, List.mem_append, List.mem_flatMap, List.mem_range, List.mem_map] at hx
  rcases hx with ⟨a, ha, b, hb, rfl⟩ | ⟨b, hb, rfl⟩ <;> dsimp only <;> omega
theorem doneS_sorted (i : Nat) : ∀ j, j ≤ 11 → (doneS i j).Pairwise (fun x y => lessS x y = true) := by
  have step : ∀ i j, (doneS i j).Pairwise (fun x y => lessS x y = true) → (doneS i (j + 1)).Pairwise (fun x y => lessS x y = true) := by
    intro i j h
    rw [doneS_dir, List.pairwise_append]
    refine ⟨h, List.pairwise_singleton _ _, fun x hx y hy => ?_⟩
    rw [List.mem_singleton.1 hy]
    have := doneS_bd i j x hx
    simp only [lessS, decide_eq_true_eq]
    omega
  induction i with
  | zero =>
    intro j
    induction j with
    | zero => intro _; exact .nil
    | succ j ih => intro h; exact step 0 j (ih (by omega))
  | succ i ih =>
    intro j
    induction j with
    | zero => intro _; rw [← doneS_row]; exact ih 11 (Nat.le_refl _)
    | succ j ih2 => intro h; exact step (i + 1) j (ih2 (by omega))
/-- The states of a row, in order. -/
def rowL (l : La) (s0 : St) : Nat → List St
  | 0 => [s0]
  | k + 1 => (doneS l.boards.toNat 0).filter fun t => (rowL l s0 k).any fun s => (stepsOf l k s).contains t
theorem rowL_sorted (l : La) (s0 : St) (k : Nat) : (rowL l s0 k).Pairwise (fun x y => lessS x y = true) := by
  cases k with
  | zero => exact List.pairwise_singleton _ _
  | succ k => exact (doneS_sorted _ 0 (by omega)).filter _
theorem mem_rowL {l : La} {s0 : St} (V : Valid l) (h0 : isStart l s0 = true) : ∀ {k : Nat} {t : St}, t ∈ rowL l s0 k ↔ Rch l s0 k t := by
  intro k
  induction k with
  | zero => intro t; simp [rowL, Rch]
  | succ k ih =>
    intro t
    have hb := V.b1
    simp only [rowL, List.mem_filter, List.any_eq_true, Rch, List.contains_iff_mem, mem_doneS_iff]
    constructor
    · rintro ⟨h1, s, h2, h3⟩
      refine ⟨?_, s, ih.1 h2, h3⟩
      simp only [onL, decide_eq_true_eq]
      omega
    · rintro ⟨h1, s, h2, h3⟩
      have hd : -5 ≤ t.d ∧ t.d ≤ 5 := by
        obtain ⟨u, _, rfl⟩ := List.mem_map.1 h3
        exact nextS_d _ _
      simp only [onL, decide_eq_true_eq] at h1
      exact ⟨by omega, s, ih.2 h2, h3⟩
/-- From the row k it can go into the gutter. -/
def gutB (l : La) (s0 : St) (k : Nat) : Bool := (rowL l s0 k).any fun s => (stepsOf l k s).any fun t => !onL l t
theorem gutB_iff {l : La} {s0 : St} (V : Valid l) (h0 : isStart l s0 = true) {k : Nat} : gutB l s0 k = true ↔ Gut l s0 k := by
  simp [gutB, Gut, mem_rowL V h0]
/-- Whether it is in the gutter by a row. -/
def rowV (l : La) (s0 : St) (k : Nat) : Int := if rowL l s0 k = [] then 2 else if (List.range k).any (gutB l s0) then 1 else 0
theorem less_irrefl {s t : St} (h1 : lessS s t = true) (h2 : lessS t s = true) : False := by
  simp only [lessS, decide_eq_true_eq] at h1 h2; omega
theorem sorted_eq {a b : List St} (h1 : a.Pairwise (fun x y => lessS x y = true)) (h2 : b.Pairwise (fun x y => lessS x y = true)) (h : ∀ t, t ∈ a ↔ t ∈ b) : a = b := by
  have n1 : a.Nodup := h1.imp fun {x y} h (e : x = y) => by subst e; exact less_irrefl h h
  have n2 : b.Nodup := h2.imp fun {x y} h (e : x = y) => by subst e; exact less_irrefl h h
  exact ((List.perm_ext_iff_of_nodup n1 n2).2 h).eq_of_pairwise (fun x y _ _ h1 h2 => (less_irrefl h1 h2).elim) h1 h2
theorem RowVerdict.is {l : La} {s : St} {k : Nat} {ts : List St} {v : Int} (V : Valid l) (h0 : isStart l s = true) (h : RowVerdict l s k ts v) : ts = rowL l s k ∧ v = rowV l s k := by
  have e : ts = rowL l s k := sorted_eq h.sorted (rowL_sorted _ _ _) fun t => (h.mem t).trans (mem_rowL V h0).symm
  refine ⟨e, ?_⟩
  unfold rowV
  have hg : (List.range k).any (gutB l s) = true ↔ ∃ j, j < k ∧ Gut l s j := by simp [List.any_eq_true, gutB_iff V h0]
  rw [← e]
  by_cases h1 : ts = []
  · rw [if_pos h1]; exact h.sure h1
  · rw [if_neg h1]
    by_cases h2 : ∃ j, j < k ∧ Gut l s j
    · rw [if_pos (hg.2 h2)]; exact h.may h1 h2
    · rw [if_neg (fun e => h2 (hg.1 e))]; exact h.never h1 h2
theorem rowL_len (l : La) (s : St) (k : Nat) (V : Valid l) : (rowL l s k).length ≤ 1000 := by
  have := V.b2
  cases k with
  | zero => simp [rowL]
  | succ k =>
    refine Nat.le_trans (List.length_filter_le _ _) ?_
    rw [doneS_len]; omega

theorem Reach_je (l : La) (s : St) (row : Int) (ha pa : Option Addr) (hc pc : Nat) (he : startErr l s ≠ 0) : Cv Try.prog 18 [.agg #[I l.boards, I l.rows, .slice ha l.hooks.length hc, .slice pa l.patches.length pc], .agg #[I s.b, I s.d], I row] (KLane l ha hc pa pc) (.tuple #[.slice none 0 0, .int .u8 0, I (startErr l s)]) :=
  Cv_of fun w h => Reach_err l s row ha pa hc pc w h.at_ he
theorem Reach_jr (l : La) (s : St) (row : Int) (ha pa : Option Addr) (hc pc : Nat) (he : startErr l s = 0) (hr : ¬ (0 ≤ row ∧ row ≤ l.rows - 1)) : Cv Try.prog 18 [.agg #[I l.boards, I l.rows, .slice ha l.hooks.length hc, .slice pa l.patches.length pc], .agg #[I s.b, I s.d], I row] (KLane l ha hc pa pc) (.tuple #[.slice none 0 0, .int .u8 0, I 2]) :=
  Cv_of fun w h => Reach_row l s row ha pa hc pc w h.at_ he hr
theorem KSl_new {α : Type} {enc : α → List Value} {xs : List α} {a : Option Addr} {n cap B : Nat} {w w2 : World} (h : SlAt w a n cap (xs.flatMap enc)) (hn : n = xs.length) (hN : NewSl B (.slice a n cap)) (hz : w.heap.size ≤ w2.heap.size) (he : ∀ b, B ≤ b → b < w.heap.size → w2.heap[b]? = w.heap[b]?) :
    KSl a n cap enc xs w2 := by
  refine ⟨⟨h.1, h.2.1, h.2.2.1, fun hne => ?_⟩, hn⟩
  obtain ⟨b, o, rfl, hb, hc⟩ := h.2.2.2 hne
  refine ⟨b, o, rfl, by omega, fun i c hi => ?_⟩
  rw [← hc i c hi]
  unfold World.cell?
  dsimp only
  rw [he b (hN _ _ _ rfl) hb]
theorem Reach_jo (l : La) (s : St) (row : Nat) (ha pa : Option Addr) (hc pc : Nat) (he : startErr l s = 0) (hr : (row : Int) < l.rows) : Cr Try.prog 18 [.agg #[I l.boards, I l.rows, .slice ha l.hooks.length hc, .slice pa l.patches.length pc], .agg #[I s.b, I s.d], I row] (KLane l ha hc pa pc)
    (fun q : Option Addr × Nat => .tuple #[.slice q.1 (rowL l s row).length q.2, .int .u8 (rowV l s row), I 0]) (fun q => KSl q.1 (rowL l s row).length q.2 encSt (rowL l s row)) :=
  Cr_of fun w h => (Reach_ok l s row ha pa hc pc w h.at_ he hr).mono fun e w' ⟨ts, u, v, h1, ⟨a, cap, h2, h3⟩, h4, h5, hb⟩ => by
    obtain ⟨V, h0⟩ := valid_start he
    obtain ⟨rfl, rfl⟩ := h4.is V h0
    subst h2
    exact ⟨(a, cap), h1, hb, fun w2 _ hz hn => KSl_new h3 rfl h5 hz hn⟩
end Go.Proofs.Ytcfhbnfincpehaa

/- The statements about path: awake. -/
namespace Go.Proofs.Ytcfhbnfincpehaa
open Go.RowKit Go.Shelf

theorem awake_start : startErr oiledL ⟨12, 2⟩ = 0 := by decide +kernel
theorem awake_aims : aimsErr oiledL aimedP = 0 := by decide +kernel
theorem awake_rowL : rowL oiledL ⟨12, 2⟩ 4 = [⟨10, -2⟩, ⟨14, -1⟩] := by decide +kernel
theorem awake_rowV : rowV oiledL ⟨12, 2⟩ 4 = 0 := by decide +kernel
theorem awake_turn : turnV oiledL ⟨12, 2⟩ = ⟨13, 15⟩ := by decide +kernel
theorem awake_best : bestF (aimsL oiledL aimedP) = (⟨12, 2⟩, 1) := by decide +kernel
abbrev awL : List St := [⟨10, -2⟩, ⟨14, -1⟩]
theorem awakeR_j (ha pa : Option Addr) (hc pc : Nat) : Cr Try.prog 18 [.agg #[I 20, I 5, .slice ha 2 hc, .slice pa 1 pc], .agg #[I 12, I 2], I 4] (KLane oiledL ha hc pa pc)
    (fun q : Option Addr × Nat => .tuple #[.slice q.1 awL.length q.2, .int .u8 0, I 0]) (fun q => KSl q.1 awL.length q.2 encSt awL) := by
  have h := Reach_jo oiledL ⟨12, 2⟩ 4 ha pa hc pc awake_start (by decide)
  rw [awake_rowL, awake_rowV] at h
  exact h
theorem awakeT_j (ha pa : Option Addr) (hc pc : Nat) : Cv Try.prog 25 [.agg #[I 20, I 5, .slice ha 2 hc, .slice pa 1 pc], .agg #[I 12, I 2]] (KLane oiledL ha hc pa pc) (.tuple #[.agg #[I 13, I 15], I 0]) := by
  have h := Turn_jo oiledL ⟨12, 2⟩ ha pa hc pc awake_start
  rw [awake_turn] at h
  exact h
theorem awakeB_j (ha pa : Option Addr) (hc pc : Nat) : Cv Try.prog 31 [.agg #[I 20, I 5, .slice ha 2 hc, .slice pa 1 pc], .agg #[I 9, I 15, I (-3), I (-1)]] (KLane oiledL ha hc pa pc) (.tuple #[.agg #[I 12, I 2], I 1, I 0]) := by
  have h := Best_jo oiledL aimedP ha pa hc pc awake_aims
  rw [awake_best] at h
  exact h
set_option maxRecDepth 100000 in
theorem lawake_j : Cv Try.prog 17 [] KTrue (.bool true) := by
  refine Cx_of Try.func17 rfl Try.ntmps17 rfl fun w0 M0 => ?_
  refine JC_seq ?_
  refine JC_region ?_
  refine JL_pd rfl (det_assign rfl) ?_
  refine JL_nil ?_
  refine JE_seq ?_
  refine JC_seq ?_
  refine JC_region ?_
  -- stop: op  0 t10 := (call (Call (value f52) () ()))   77
  refine JL_step rfl rfl rfl (jo_call rfl rfl Try.call52 rfl (loiled_j)) fun ⟨⟨ha, hc⟩, pa, pc⟩ => ?_
  refine JL_pd rfl (det_build rfl (bld_39_0_1 _ _)) ?_
  -- stop: op  2 t12 := (call (Call (value f18) (t10 t11 4) (37 39 3)))   <0 1 0>   77
  refine JL_step rfl rfl rfl (jo_call rfl rfl Try.call18 rfl (awakeR_j ha pa hc pc)) fun ⟨ra, rc⟩ => ?_
  refine JL_pd rfl (det_move rfl) ?_
  refine JL_pd rfl (det_extract rfl rfl) ?_
  refine JL_pd rfl (det_extract rfl rfl) ?_
  refine JL_pd rfl (det_extract rfl rfl) ?_
  refine JL_pd rfl (det_assign rfl) ?_
  refine JL_pd rfl (det_assign rfl) ?_
  refine JL_pd rfl (det_assign rfl) ?_
  refine JL_nil ?_
  refine JE_seq ?_
  refine JC_seq ?_
  refine JC_region ?_
  -- stop: op  0 t17 := (call (Call (value f52) () ()))   78
  refine JL_step rfl rfl rfl (jo_call rfl rfl Try.call52 rfl (loiled_j)) fun ⟨⟨ha2, hc2⟩, pa2, pc2⟩ => ?_
  refine JL_pd rfl (det_build rfl (bld_39_0_1 _ _)) ?_
  -- stop: op  2 t19 := (call (Call (value f25) (t17 t18) (37 39)))   <0 1 0>   78
  refine JL_step rfl rfl rfl (jo_callv rfl rfl Try.call25 rfl (awakeT_j ha2 pa2 hc2 pc2)) fun _ => ?_
  refine JL_pd rfl (det_move rfl) ?_
  refine JL_pd rfl (det_extract rfl rfl) ?_
  refine JL_pd rfl (det_extract rfl rfl) ?_
  refine JL_step rfl rfl rfl (jo_alloc0 Try.zeroValue49 rfl) fun b4 => ?_
  refine JL_step0 rfl rfl (jo_store rfl rfl rfl (by first | (simp only [splice_norm]; done) | (simp only [splice_norm]; rfl) | rfl) Try.sizeOf49 rfl rfl) fun _ => ?_
  refine JL_pd rfl (det_assign rfl) ?_
  refine JL_nil ?_
  refine JE_seq ?_
  refine JC_seq ?_
  refine JC_region ?_
  -- stop: op  0 t23 := (call (Call (value f52) () ()))   79
  refine JL_step rfl rfl rfl (jo_call rfl rfl Try.call52 rfl (loiled_j)) fun ⟨⟨ha3, hc3⟩, pa3, pc3⟩ => ?_
  -- stop: op  1 t24 := (call (Call (value f53) () ()))   <0>   79
  refine JL_step rfl rfl rfl (jo_callv rfl rfl Try.call53 rfl (laimed_j)) fun _ => ?_
  -- stop: op  2 t25 := (call (Call (value f31) (t23 t24) (37 62)))   <0 1 1>   79
  refine JL_step rfl rfl rfl (jo_callv rfl rfl Try.call31 rfl (awakeB_j ha3 pa3 hc3 pc3)) fun _ => ?_
  refine JL_pd rfl (det_move rfl) ?_
  refine JL_pd rfl (det_extract rfl rfl) ?_
  refine JL_pd rfl (det_extract rfl rfl) ?_
  refine JL_pd rfl (det_extract rfl rfl) ?_
  refine JL_step rfl rfl rfl (jo_alloc0 Try.zeroValue39 rfl) fun b6 => ?_
  refine JL_step0 rfl rfl (jo_store rfl rfl rfl (by first | (simp only [splice_norm]; done) | (simp only [splice_norm]; rfl) | rfl) Try.sizeOf39 rfl rfl) fun _ => ?_
  refine JL_pd rfl (det_assign rfl) ?_
  refine JL_pd rfl (det_assign rfl) ?_
  refine JL_nil ?_
  refine JE_seq ?_
  refine JC_seq ?_
  refine JC_draw [] (by kernel_rfl) ?_
  refine JA_pd (i := 0) rfl (by kernel_rfl) rfl rfl (det_move rfl) ?_
  refine JA_pd (i := 1) rfl (by kernel_rfl) rfl rfl (det_eql rfl rfl) ?_
  refine JA_pd (i := 2) rfl (by kernel_rfl) rfl rfl (det_move rfl) ?_
  -- stop: guard 2
  refine JA_is (d0 := 31) true rfl (by decide) (fun h1 => ?_)
  refine JA_gpd (i := 3) rfl (by kernel_rfl) rfl rfl rfl rfl h1 (det_move rfl) ?_
  refine JA_gpd (i := 4) rfl (by kernel_rfl) rfl rfl rfl rfl h1 (det_eql rfl rfl) ?_
  refine JA_pd (i := 5) rfl (by kernel_rfl) rfl rfl (det_pick_t rfl h1 rfl) ?_
  refine JA_pd (i := 6) rfl (by kernel_rfl) rfl rfl (det_move rfl) ?_
  refine JA_is (d0 := 35) true rfl (by decide) (fun h2 => ?_)
  refine JA_gpd (i := 7) rfl (by kernel_rfl) rfl rfl rfl rfl h2 (det_move rfl) ?_
  refine JA_gpd (i := 8) rfl (by kernel_rfl) rfl rfl rfl rfl h2 (det_len rfl Try.runUnderlying30) ?_
  refine JA_gpd (i := 9) rfl (by kernel_rfl) rfl rfl rfl rfl h2 (det_eql rfl rfl) ?_
  refine JA_pd (i := 10) rfl (by kernel_rfl) rfl rfl (det_pick_t rfl h2 rfl) ?_
  refine JA_pd (i := 11) rfl (by kernel_rfl) rfl rfl (det_move rfl) ?_
  refine JA_is (d0 := 40) true rfl (by decide) (fun h3 => ?_)
  refine JA_gpd (i := 12) rfl (by kernel_rfl) rfl rfl rfl rfl h3 (det_move rfl) ?_
  refine JA_gdt (i := 13) rfl (by kernel_rfl) (by kernel_rfl) rfl rfl rfl rfl h3 (det_indexAddr (i := 0) rfl rfl (by first | rfl | omega) (by first | assumption | omega | decide) Try.runUnderlying30 Try.sizeOf39) ?_
  refine JA_gdt (i := 14) rfl (by kernel_rfl) (by kernel_rfl) rfl rfl rfl rfl h3 (det_loadEA rfl (by first | assumption | omega | decide) Try.isAgg39 Try.sizeOf39 rfl rfl rfl) ?_
  refine JA_gpd (i := 15) rfl (by kernel_rfl) rfl rfl rfl rfl h3 (det_build rfl (bld_39_0_1 _ _)) ?_
  refine JA_gpd (i := 16) rfl (by kernel_rfl) rfl rfl rfl rfl h3 (det_eqlA rfl rfl egt_39 (eqa_39 _ _ _ _)) ?_
  refine JA_pd (i := 17) rfl (by kernel_rfl) rfl rfl (det_pick_t rfl h3 rfl) ?_
  refine JA_pd (i := 18) rfl (by kernel_rfl) rfl rfl (det_move rfl) ?_
  refine JA_is (d0 := 47) true rfl (by decide) (fun h4 => ?_)
  refine JA_gpd (i := 19) rfl (by kernel_rfl) rfl rfl rfl rfl h4 (det_move rfl) ?_
  refine JA_gdt (i := 20) rfl (by kernel_rfl) (by kernel_rfl) rfl rfl rfl rfl h4 (det_indexAddr (i := 1) rfl rfl (by first | rfl | omega) (by first | assumption | omega | decide) Try.runUnderlying30 Try.sizeOf39) ?_
  refine JA_gdt (i := 21) rfl (by kernel_rfl) (by kernel_rfl) rfl rfl rfl rfl h4 (det_loadEA rfl (by first | assumption | omega | decide) Try.isAgg39 Try.sizeOf39 rfl rfl rfl) ?_
  refine JA_gpd (i := 22) rfl (by kernel_rfl) rfl rfl rfl rfl h4 (det_build rfl (bld_39_0_1 _ _)) ?_
  refine JA_gpd (i := 23) rfl (by kernel_rfl) rfl rfl rfl rfl h4 (det_eqlA rfl rfl egt_39 (eqa_39 _ _ _ _)) ?_
  refine JA_pd (i := 24) rfl (by kernel_rfl) rfl rfl (det_pick_t rfl h4 rfl) ?_
  refine JA_pd (i := 25) rfl (by kernel_rfl) rfl rfl (det_move rfl) ?_
  refine JA_is (d0 := 54) true rfl (by decide) (fun h5 => ?_)
  refine JA_gpd (i := 26) rfl (by kernel_rfl) rfl rfl rfl rfl h5 (det_move rfl) ?_
  refine JA_gpd (i := 27) rfl (by kernel_rfl) rfl rfl rfl rfl h5 (det_eql rfl rfl) ?_
  refine JA_pd (i := 28) rfl (by kernel_rfl) rfl rfl (det_pick_t rfl h5 rfl) ?_
  refine JA_pd (i := 29) rfl (by kernel_rfl) rfl rfl (det_move rfl) ?_
  refine JA_is (d0 := 58) true rfl (by decide) (fun h6 => ?_)
  refine JA_gdt (i := 30) rfl (by kernel_rfl) (by kernel_rfl) rfl rfl rfl rfl h6 (det_loadKA rfl Try.isAgg49 Try.sizeOf49 rfl rfl) ?_
  refine JA_gone (i := 31) (by kernel_rfl) rfl rfl rfl h6 rfl (jo_callv rfl rfl Try.call54 rfl (lbetween_j _ _)) (fun _ => ⟨hsub_refl, fun _ h => h⟩) fun _ => ?_
  refine JA_gpd (i := 32) rfl (by kernel_rfl) rfl rfl rfl rfl h6 (det_eqlA rfl rfl egt_49 (eqa_49 _ _ _ _)) ?_
  refine JA_pd (i := 33) rfl (by kernel_rfl) rfl rfl (det_pick_t rfl h6 rfl) ?_
  refine JA_pd (i := 34) rfl (by kernel_rfl) rfl rfl (det_move rfl) ?_
  refine JA_is (d0 := 63) true rfl (by decide) (fun h7 => ?_)
  refine JA_gpd (i := 35) rfl (by kernel_rfl) rfl rfl rfl rfl h7 (det_move rfl) ?_
  refine JA_gpd (i := 36) rfl (by kernel_rfl) rfl rfl rfl rfl h7 (det_eql rfl rfl) ?_
  refine JA_pd (i := 37) rfl (by kernel_rfl) rfl rfl (det_pick_t rfl h7 rfl) ?_
  refine JA_pd (i := 38) rfl (by kernel_rfl) rfl rfl (det_move rfl) ?_
  refine JA_is (d0 := 67) true rfl (by decide) (fun h8 => ?_)
  refine JA_gdt (i := 39) rfl (by kernel_rfl) (by kernel_rfl) rfl rfl rfl rfl h8 (det_loadKA rfl Try.isAgg39 Try.sizeOf39 rfl rfl) ?_
  refine JA_gpd (i := 40) rfl (by kernel_rfl) rfl rfl rfl rfl h8 (det_build rfl (bld_39_0_1 _ _)) ?_
  refine JA_gpd (i := 41) rfl (by kernel_rfl) rfl rfl rfl rfl h8 (det_eqlA rfl rfl egt_39 (eqa_39 _ _ _ _)) ?_
  refine JA_pd (i := 42) rfl (by kernel_rfl) rfl rfl (det_pick_t rfl h8 rfl) ?_
  refine JA_pd (i := 43) rfl (by kernel_rfl) rfl rfl (det_move rfl) ?_
  refine JA_is (d0 := 72) true rfl (by decide) (fun h9 => ?_)
  refine JA_gpd (i := 44) rfl (by kernel_rfl) rfl rfl rfl rfl h9 (det_move rfl) ?_
  refine JA_gpd (i := 45) rfl (by kernel_rfl) rfl rfl rfl rfl h9 (det_eql rfl rfl) ?_
  refine JA_pd (i := 46) rfl (by kernel_rfl) rfl rfl (det_pick_t rfl h9 rfl) ?_
  refine JA_pd (i := 47) rfl (by kernel_rfl) rfl rfl (det_assign rfl) ?_
  refine JA_done (by kernel_rfl) ?_
  refine JE_seq ?_
  refine JC_ret ?_
  refine JE_out (.inl rfl) () (results1 Try.results17 (res_tmp rfl)) ?_ (List.Perm.refl _) (fun _ _ => trivial)
  rfl
end Go.Proofs.Ytcfhbnfincpehaa

/- The statements about path: what came in, as plain values. -/
namespace Go.Proofs.Ytcfhbnfincpehaa
open Go.ChangeShapes Go.WideShapes Go.ChangeAt Go.RowKit Go.Deep Go.Joins

theorem own : ownKnob Try.prog.godebug = none := by kernel_rfl
theorem laidOut : laidOutB Try.prog = true := by kernel_rfl
section
variable {H : Type} {enc : TypeId × Value → H} {P : Program}
theorem open_aggv {α : Type} {e : α → List Value} {t : TypeId} {fs : Array Field} {w : World} {r : Reach} {b0 base : Nat} {sp : Nat → Bool} {held : Bool} {v : Value} {d : DataW H} {p : List MemPlace} (hs : P.underlying t = some (.struct fs)) (hO : OpensTo P t e)
    (hv : Value.okWide P w r b0 t v) (h : DataW.Trod enc P w base sp held t v d p) : ∃ x, v = .agg (e x).toArray := by
  obtain ⟨cs, rfl, _⟩ := okWide_struct hs hv
  obtain ⟨fuel, hf⟩ := h
  obtain ⟨x, hx⟩ := hO _ _ _ _ _ _ _ _ _ hf
  refine ⟨x, ?_⟩
  simp only [Value.cells] at hx
  rw [← hx]
theorem open_slicev {α : Type} {e : α → List Value} {t E : TypeId} {z : Nat} {w : World} {r : Reach} {b0 base : Nat} {sp : Nat → Bool} {held : Bool} {v : Value} {d : DataW H} {p : List MemPlace} (hs : P.underlying t = some (.slice E)) (hE : OpensTo P E e) (hz : P.cellsOf E = z) [hr : Rec e z]
    (hv : Value.okWide P w r b0 t v) (h : DataW.Trod enc P w base sp held t v d p) : ∃ (a : Option Addr) (cap : Nat) (xs : List α), v = .slice a xs.length cap ∧ KSl a xs.length cap e xs w := by
  obtain ⟨a, n, cap, rfl⟩ := okWide_slice hs hv
  obtain ⟨fuel, hf⟩ := h
  obtain ⟨a', cap', xs, h1, h2⟩ := opens_slice hs hE hz hf
  simp only [Value.cells, List.cons.injEq, and_true] at h1
  exact ⟨a', cap', xs, h1, h2⟩
end
theorem opensI : OpensTo Try.prog 3 encI := (opens_int Try.underlying3).to id fun _ => rfl
theorem opensRg : OpensTo Try.prog 53 encRg :=
  (opens_struct2 Try.underlying53 opensI opensI rfl (by kernel_rfl) (by kernel_rfl)).to (fun p => ⟨p.1, p.2⟩) fun _ => rfl
set_option maxRecDepth 100000 in
theorem opensPa : OpensTo Try.prog 89 encPa :=
  (opens_struct3 Try.underlying89 opensRg opensRg opensI rfl (by kernel_rfl) (by kernel_rfl) (by kernel_rfl)).to (fun p => ⟨p.1, p.2.1, p.2.2⟩) fun _ => rfl
theorem opensSt : OpensTo Try.prog 27 encSt :=
  (opens_struct2 Try.underlying27 opensI opensI rfl (by kernel_rfl) (by kernel_rfl)).to (fun p => ⟨p.1, p.2⟩) fun _ => rfl
def encPk (p : Pk) : List Value := [I p.boards.lo, I p.boards.hi, I p.dirs.lo, I p.dirs.hi]
theorem opensPk : OpensTo Try.prog 57 encPk :=
  (opens_struct2 Try.underlying57 opensRg opensRg rfl (by kernel_rfl) (by kernel_rfl)).to (fun p => ⟨p.1, p.2⟩) fun _ => rfl
set_option maxRecDepth 100000 in
theorem open_lane {H : Type} {enc : TypeId × Value → H} {w : World} {r : Reach} {b0 base : Nat} {sp : Nat → Bool} {held : Bool} {v : Value} {d : DataW H} {p : List MemPlace} (hv : Value.okWide Try.prog w r b0 25 v) (h : DataW.Trod enc Try.prog w base sp held 25 v d p) :
    ∃ (l : La) (ha pa : Option Addr) (hc pc : Nat), v = .agg #[I l.boards, I l.rows, .slice ha l.hooks.length hc, .slice pa l.patches.length pc] ∧ KLane l ha hc pa pc w := by
  obtain ⟨v0, v1, v2, v3, y0, y1, y2, y3, n, rfl, _, _, t0, t1, t2, t3⟩ := open_agg4 Try.underlying25 (by kernel_rfl) (by kernel_rfl) hv h
  obtain ⟨b, e0, _⟩ := DataW.trod_int Try.underlying3 t0
  obtain ⟨r', e1, _⟩ := DataW.trod_int Try.underlying3 t1
  obtain ⟨ha, hc, hs, e2, k2⟩ := opens_slice Try.underlying22 opensRg (by kernel_rfl) t2
  obtain ⟨pa, pc, ps, e3, k3⟩ := opens_slice Try.underlying23 opensPa (by kernel_rfl) t3
  simp only [List.cons.injEq, and_true] at e0 e1 e2 e3
  subst e0 e1 e2 e3
  exact ⟨⟨b, r', hs, ps⟩, ha, pa, hc, pc, rfl, k2, k3⟩
theorem KLane.below {l : La} {ha pa : Option Addr} {hc pc : Nat} {w w' : World} (h : KLane l ha hc pa pc w) (hb : Below w.heap.size w w') : KLane l ha hc pa pc w' := ⟨h.1.below hb, h.2.below hb⟩
end Go.Proofs.Ytcfhbnfincpehaa
