/- Walks of package path: Turn. -/
import Derived.Test.YtcfhbnfincpehaaW6
namespace Go.Proofs.Ytcfhbnfincpehaa
open Go.RowKit Go.Shelf

theorem least_jx (x y : Int) (b : Nat) : Cx Try.prog 67 [.slice (some ⟨b, 0, none⟩) 2 2] [bx b [I x, I y]] KTrue (fun _ : Unit => I (min x y)) (fun _ => [bx b [I x, I y]]) (fun _ => KTrue) :=
  Cx_same fun w h => by
    have hb : Box w b [I x, I y] := (h (bx b [I x, I y]) (by simp)).now
    exact least_two x y b w (hb.cell 0 rfl) (hb.cell 1 rfl)
theorem greatest_jx (x y : Int) (b : Nat) : Cx Try.prog 68 [.slice (some ⟨b, 0, none⟩) 2 2] [bx b [I x, I y]] KTrue (fun _ : Unit => I (max x y)) (fun _ => [bx b [I x, I y]]) (fun _ => KTrue) :=
  Cx_same fun w h => by
    have hb : Box w b [I x, I y] := (h (bx b [I x, I y]) (by simp)).now
    exact greatest_two x y b w (hb.cell 0 rfl) (hb.cell 1 rfl)

def widen (o r : Rg) : Rg := ⟨min o.lo r.lo, max o.hi r.hi⟩
/-- The range of the greatest boards from a state on: n rows before the last one. -/
def turnN (l : La) : Nat → Int → St → Rg
  | 0, _, s => if onL l s = true then ⟨s.b, s.b⟩ else ⟨0, 0⟩
  | n + 1, row, s => if onL l s = true then
      let o := ((stepsOf l row s).map (turnN l n (row + 1))).foldl widen ⟨40, 0⟩
      ⟨max o.lo s.b, max o.hi s.b⟩ else ⟨0, 0⟩
def GoodT (l : La) (m : Int × St → Option Rg) : Prop := ∀ k v, m k = some v → v = turnN l (l.rows - 1 - k.1).toNat k.1 k.2
abbrev MemoT (l : La) := { m : Int × St → Option Rg // GoodT l m }
abbrev vR : Rg → Value := fun r => .agg #[I r.lo, I r.hi]
theorem GoodT.upd {l : La} {m : Int × St → Option Rg} (h : GoodT l m) {row : Int} {s : St} {v : Rg} (hv : v = turnN l (l.rows - 1 - row).toNat row s) : GoodT l (Go.Proofs.Ytcfhbnfincpehaa.upd m (row, s) v) := by
  intro k u hu
  by_cases e : k = (row, s)
  · subst e; simp [Go.Proofs.Ytcfhbnfincpehaa.upd] at hu; rw [← hu, hv]
  · simp [Go.Proofs.Ytcfhbnfincpehaa.upd, e] at hu; exact h k u hu

set_option maxRecDepth 100000 in
theorem turn1_j (l : La) (ha pa : Option Addr) (hc pc g bb bk bf mk : Nat) (V : Valid l) :
    ∀ (n : Nat) (row : Int) (s : St) (m : MemoT l), row + n = l.rows - 1 → 0 ≤ row → -5 ≤ s.d → s.d ≤ 5 →
      Cx Try.prog 64 [I row, .agg #[I s.b, I s.d], pt bb, pt bk, pt bf] [mp mk ekSp vR m.1] (KAnd (KBox bb [I l.boards, I l.rows, .slice ha l.hooks.length hc, .slice pa l.patches.length pc, .slice (some ⟨g, 0, none⟩) l.rows.toNat l.rows.toNat]) (KAnd (KBox bk [.map (some mk)]) (KAnd (KBox bf [.func (.func 64) #[] #[pt bb, pt bk, pt bf]]) (KBall l ha hc pa pc g))))
        (fun _ : MemoT l => .agg #[I (turnN l n row s).lo, I (turnN l n row s).hi]) (fun m' => [mp mk ekSp vR m'.1]) (fun _ => KTrue) := by
  intro n
  induction n with
  | zero =>
    intro row s m hn h0 d1 d2
    have r2 := V.r2
    refine Cx_of Try.func64 rfl Try.ntmps64 rfl fun w0 M0 => ?_
    refine JC_seq ?_
    refine JC_region ?_
    refine JL_step rfl rfl rfl (jo_box rfl rfl) fun b5 => ?_
    refine JL_step rfl rfl rfl (jo_box rfl rfl) fun b6 => ?_
    refine JL_step rfl rfl rfl (jo_alloc0 Try.zeroValue49 rfl) fun b7 => ?_
    refine JL_nil ?_
    refine JE_seq ?_
    refine JC_seq ?_
    refine JC_seq ?_
    refine JC_region ?_
    refine JL_pd rfl (det_fieldAddr rfl fo_107_0) ?_
    refine JL_dt rfl (det_loadKA rfl Try.isAgg37 Try.sizeOf37 rfl rfl) ?_
    refine JL_dt rfl (det_loadKA rfl Try.isAgg39 Try.sizeOf39 rfl rfl) ?_
    -- stop: op  3 t16 := (call (Call (value f65) (t14 t15) (37 39)))   <1 2>   184
    refine JL_step rfl rfl rfl (jo_callv rfl rfl Try.call65 rfl (on_j l ha pa hc pc s)) fun _ => ?_
    refine JL_pd rfl (det_not rfl) ?_
    refine JL_nil ?_
    refine JE_seq ?_
    -- stop: cond
    refine JC_cond rfl (fun hon => ?_) (fun hon => ?_)
    · refine JC_seq ?_
      refine JC_region ?_
      refine JL_pd rfl (det_build rfl (bld_49)) ?_
      refine JL_step0 rfl rfl (jo_store rfl rfl rfl (by first | (simp only [splice_norm]; done) | (simp only [splice_norm]; rfl) | rfl) Try.sizeOf49 rfl rfl) fun _ => ?_
      refine JL_nil ?_
      refine JE_seq ?_
      refine JC_ret ?_
      refine JE_seq_ret ?_
      -- stop: out
      simp only [Bool.not_eq_true'] at hon
      refine JE_out (.inl rfl) m (results1 Try.results64 (res_box rfl Try.isAgg49 Try.sizeOf49 rfl)) (by simp [turnN, hon]) pick_perm (fun _ _ => trivial)
    · refine JC_skip ?_
      refine JE_seq ?_
      refine JC_seq ?_
      refine JC_region ?_
      refine JL_dt rfl (det_loadK rfl Try.isAgg121 rfl) ?_
      refine JL_dt rfl (det_loadK rfl Try.isAgg3 rfl) ?_
      refine JL_dt rfl (det_loadKA rfl Try.isAgg39 Try.sizeOf39 rfl rfl) ?_
      refine JL_pd rfl (det_build rfl (bld_126_0_1 _ _ _)) ?_
      -- stop: op  4 t24 := (lookup 121 t20 t23 true)   <0 3>   187
      simp only [Bool.not_eq_false'] at hon
      have hres : turnN l 0 row s = ⟨s.b, s.b⟩ := by simp [turnN, hon]
      rcases hmk : m.1 (row, s) with _ | v
      · skip
        refine JL_dt rfl (det_lookup2N hmk rfl rfl goodSp Try.underlying121 Try.zeroValue49) ?_
        refine JL_pd rfl (det_move rfl) ?_
        refine JL_pd rfl (det_extract rfl rfl) ?_
        refine JL_pd rfl (det_extract rfl rfl) ?_
        refine JL_step rfl rfl rfl (jo_alloc0 Try.zeroValue49 rfl) fun b8 => ?_
        refine JL_step0 rfl rfl (jo_store rfl rfl rfl (by first | (simp only [splice_norm]; done) | (simp only [splice_norm]; rfl) | rfl) Try.sizeOf49 rfl rfl) fun _ => ?_
        refine JL_pd rfl (det_assign rfl) ?_
        refine JL_nil ?_
        refine JE_seq ?_
        refine JC_seq ?_
        refine JC_seq ?_
        refine JC_region ?_
        refine JL_pd rfl (det_move rfl) ?_
        refine JL_nil ?_
        refine JE_seq ?_
        -- stop: cond
        refine JC_cond rfl (fun hno => ?_) (fun hno => ?_)
        · refine JC_seq ?_
          refine JC_region ?_
          refine JL_dt rfl (det_loadKA rfl Try.isAgg49 Try.sizeOf49 rfl rfl) ?_
          refine JL_step0 rfl rfl (jo_store rfl rfl rfl (by first | (simp only [splice_norm]; done) | (simp only [splice_norm]; rfl) | rfl) Try.sizeOf49 rfl rfl) fun _ => ?_
          refine JL_nil ?_
          refine JE_seq ?_
          refine JC_ret ?_
          refine JE_seq_ret ?_
          -- stop: out
          cases hno
        · refine JC_skip ?_
          refine JE_seq ?_
          refine JC_seq ?_
          refine JC_seq ?_
          refine JC_region ?_
          refine JL_dt rfl (det_loadK rfl Try.isAgg3 rfl) ?_
          refine JL_pd rfl (det_fieldAddr rfl fo_107_0) ?_
          refine JL_pd rfl (det_fieldAddr rfl fo_37_1) ?_
          refine JL_dt rfl (det_loadK rfl Try.isAgg3 rfl) ?_
          refine JL_pd rfl (det_sub rfl rfl ⟨by omega, by omega⟩) ?_
          refine JL_pd rfl (det_eql rfl rfl) ?_
          refine JL_nil ?_
          refine JE_seq ?_
          -- stop: cond
          -- stop: cond
          refine JC_if rfl (fun hl => ?_) (fun hl => ?_)
          · refine JC_seq ?_
            refine JC_region ?_
            refine JL_pd rfl (det_fieldAddr rfl fo_39_0) ?_
            refine JL_dt rfl (det_loadK rfl Try.isAgg3 rfl) ?_
            refine JL_pd rfl (det_fieldAddr rfl fo_39_0) ?_
            refine JL_dt rfl (det_loadK rfl Try.isAgg3 rfl) ?_
            refine JL_pd rfl (det_build rfl (bld_49_0_1 _ _)) ?_
            refine JL_step0 rfl rfl (jo_store rfl rfl rfl (by first | (simp only [splice_norm]; done) | (simp only [splice_norm]; rfl) | rfl) Try.sizeOf49 rfl rfl) fun _ => ?_
            refine JL_nil ?_
            refine JE_seq ?_
            refine JC_ret ?_
            refine JE_seq_ret ?_
            -- stop: out
            refine JE_out (.inl rfl) m (results1 Try.results64 (res_box rfl Try.isAgg49 Try.sizeOf49 rfl)) (by rw [hres]) pick_perm (fun _ _ => trivial)
          · refine JC_skip ?_
            refine JE_seq ?_
            refine JC_seq ?_
            refine JC_region ?_
            refine JL_pd rfl (det_build rfl (bld_49_0_1 _ _)) ?_
            refine JL_step0 rfl rfl (jo_store rfl rfl rfl (by first | (simp only [splice_norm]; done) | (simp only [splice_norm]; rfl) | rfl) Try.sizeOf49 rfl rfl) fun _ => ?_
            refine JL_nil ?_
            refine JE_seq ?_
            refine JC_seq ?_
            refine JC_seq ?_
            refine JC_region ?_
            refine JL_dt rfl (det_loadKA rfl Try.isAgg107 Try.sizeOf107 rfl rfl) ?_
            refine JL_dt rfl (det_loadK rfl Try.isAgg3 rfl) ?_
            refine JL_dt rfl (det_loadKA rfl Try.isAgg39 Try.sizeOf39 rfl rfl) ?_
            -- stop: op  3 t44 := (call (Call (value f66) (t41 t42 t43) (107 3 39)))   <0 1 2>   195
            omega
      · skip
        refine JL_dt rfl (det_lookup2S hmk rfl rfl goodSp Try.underlying121 Try.zeroValue49) ?_
        refine JL_pd rfl (det_move rfl) ?_
        refine JL_pd rfl (det_extract rfl rfl) ?_
        refine JL_pd rfl (det_extract rfl rfl) ?_
        refine JL_step rfl rfl rfl (jo_alloc0 Try.zeroValue49 rfl) fun b8 => ?_
        refine JL_step0 rfl rfl (jo_store rfl rfl rfl (by first | (simp only [splice_norm]; done) | (simp only [splice_norm]; rfl) | rfl) Try.sizeOf49 rfl rfl) fun _ => ?_
        refine JL_pd rfl (det_assign rfl) ?_
        refine JL_nil ?_
        refine JE_seq ?_
        refine JC_seq ?_
        refine JC_seq ?_
        refine JC_region ?_
        refine JL_pd rfl (det_move rfl) ?_
        refine JL_nil ?_
        refine JE_seq ?_
        -- stop: cond
        refine JC_cond rfl (fun hno => ?_) (fun hno => ?_)
        · refine JC_seq ?_
          refine JC_region ?_
          refine JL_dt rfl (det_loadKA rfl Try.isAgg49 Try.sizeOf49 rfl rfl) ?_
          refine JL_step0 rfl rfl (jo_store rfl rfl rfl (by first | (simp only [splice_norm]; done) | (simp only [splice_norm]; rfl) | rfl) Try.sizeOf49 rfl rfl) fun _ => ?_
          refine JL_nil ?_
          refine JE_seq ?_
          refine JC_ret ?_
          refine JE_seq_ret ?_
          -- stop: out
          refine JE_out (.inl rfl) m (results1 Try.results64 (res_box rfl Try.isAgg49 Try.sizeOf49 rfl)) (by rw [m.2 _ _ hmk]; rw [show (l.rows - 1 - (row, s).1).toNat = 0 from by show (l.rows - 1 - row).toNat = _; omega]) pick_perm (fun _ _ => trivial)
        · refine JC_skip ?_
          refine JE_seq ?_
          refine JC_seq ?_
          refine JC_seq ?_
          refine JC_region ?_
          refine JL_dt rfl (det_loadK rfl Try.isAgg3 rfl) ?_
          refine JL_pd rfl (det_fieldAddr rfl fo_107_0) ?_
          refine JL_pd rfl (det_fieldAddr rfl fo_37_1) ?_
          refine JL_dt rfl (det_loadK rfl Try.isAgg3 rfl) ?_
          refine JL_pd rfl (det_sub rfl rfl ⟨by omega, by omega⟩) ?_
          refine JL_pd rfl (det_eql rfl rfl) ?_
          refine JL_nil ?_
          refine JE_seq ?_
          -- stop: cond
          cases hno
  | succ n IH =>
    intro row s m hn h0 d1 d2
    have r2 := V.r2
    have hrw : (l.rows - 1 - row).toNat = n + 1 := by omega
    refine Cx_of Try.func64 rfl Try.ntmps64 rfl fun w0 M0 => ?_
    refine JC_seq ?_
    refine JC_region ?_
    refine JL_step rfl rfl rfl (jo_box rfl rfl) fun b5 => ?_
    refine JL_step rfl rfl rfl (jo_box rfl rfl) fun b6 => ?_
    refine JL_step rfl rfl rfl (jo_alloc0 Try.zeroValue49 rfl) fun b7 => ?_
    refine JL_nil ?_
    refine JE_seq ?_
    refine JC_seq ?_
    refine JC_seq ?_
    refine JC_region ?_
    refine JL_pd rfl (det_fieldAddr rfl fo_107_0) ?_
    refine JL_dt rfl (det_loadKA rfl Try.isAgg37 Try.sizeOf37 rfl rfl) ?_
    refine JL_dt rfl (det_loadKA rfl Try.isAgg39 Try.sizeOf39 rfl rfl) ?_
    -- stop: op  3 t16 := (call (Call (value f65) (t14 t15) (37 39)))   <1 2>   184
    refine JL_step rfl rfl rfl (jo_callv rfl rfl Try.call65 rfl (on_j l ha pa hc pc s)) fun _ => ?_
    refine JL_pd rfl (det_not rfl) ?_
    refine JL_nil ?_
    refine JE_seq ?_
    -- stop: cond
    refine JC_cond rfl (fun hon => ?_) (fun hon => ?_)
    · refine JC_seq ?_
      refine JC_region ?_
      refine JL_pd rfl (det_build rfl (bld_49)) ?_
      refine JL_step0 rfl rfl (jo_store rfl rfl rfl (by first | (simp only [splice_norm]; done) | (simp only [splice_norm]; rfl) | rfl) Try.sizeOf49 rfl rfl) fun _ => ?_
      refine JL_nil ?_
      refine JE_seq ?_
      refine JC_ret ?_
      refine JE_seq_ret ?_
      -- stop: out
      simp only [Bool.not_eq_true'] at hon
      refine JE_out (.inl rfl) m (results1 Try.results64 (res_box rfl Try.isAgg49 Try.sizeOf49 rfl)) (by simp [turnN, hon]) pick_perm (fun _ _ => trivial)
    · refine JC_skip ?_
      refine JE_seq ?_
      refine JC_seq ?_
      refine JC_region ?_
      refine JL_dt rfl (det_loadK rfl Try.isAgg121 rfl) ?_
      refine JL_dt rfl (det_loadK rfl Try.isAgg3 rfl) ?_
      refine JL_dt rfl (det_loadKA rfl Try.isAgg39 Try.sizeOf39 rfl rfl) ?_
      refine JL_pd rfl (det_build rfl (bld_126_0_1 _ _ _)) ?_
      -- stop: op  4 t24 := (lookup 121 t20 t23 true)   <0 3>   187
      simp only [Bool.not_eq_false'] at hon
      rcases hmk : m.1 (row, s) with _ | v
      · skip
        refine JL_dt rfl (det_lookup2N hmk rfl rfl goodSp Try.underlying121 Try.zeroValue49) ?_
        refine JL_pd rfl (det_move rfl) ?_
        refine JL_pd rfl (det_extract rfl rfl) ?_
        refine JL_pd rfl (det_extract rfl rfl) ?_
        refine JL_step rfl rfl rfl (jo_alloc0 Try.zeroValue49 rfl) fun b8 => ?_
        refine JL_step0 rfl rfl (jo_store rfl rfl rfl (by first | (simp only [splice_norm]; done) | (simp only [splice_norm]; rfl) | rfl) Try.sizeOf49 rfl rfl) fun _ => ?_
        refine JL_pd rfl (det_assign rfl) ?_
        refine JL_nil ?_
        refine JE_seq ?_
        refine JC_seq ?_
        refine JC_seq ?_
        refine JC_region ?_
        refine JL_pd rfl (det_move rfl) ?_
        refine JL_nil ?_
        refine JE_seq ?_
        -- stop: cond
        refine JC_cond rfl (fun hno => ?_) (fun hno => ?_)
        · refine JC_seq ?_
          refine JC_region ?_
          refine JL_dt rfl (det_loadKA rfl Try.isAgg49 Try.sizeOf49 rfl rfl) ?_
          refine JL_step0 rfl rfl (jo_store rfl rfl rfl (by first | (simp only [splice_norm]; done) | (simp only [splice_norm]; rfl) | rfl) Try.sizeOf49 rfl rfl) fun _ => ?_
          refine JL_nil ?_
          refine JE_seq ?_
          refine JC_ret ?_
          refine JE_seq_ret ?_
          -- stop: out
          cases hno
        · refine JC_skip ?_
          refine JE_seq ?_
          refine JC_seq ?_
          refine JC_seq ?_
          refine JC_region ?_
          refine JL_dt rfl (det_loadK rfl Try.isAgg3 rfl) ?_
          refine JL_pd rfl (det_fieldAddr rfl fo_107_0) ?_
          refine JL_pd rfl (det_fieldAddr rfl fo_37_1) ?_
          refine JL_dt rfl (det_loadK rfl Try.isAgg3 rfl) ?_
          refine JL_pd rfl (det_sub rfl rfl ⟨by omega, by omega⟩) ?_
          refine JL_pd rfl (det_eql rfl rfl) ?_
          refine JL_nil ?_
          refine JE_seq ?_
          -- stop: cond
          -- stop: cond
          refine JC_if rfl (fun hl => ?_) (fun hl => ?_)
          · refine JC_seq ?_
            refine JC_region ?_
            refine JL_pd rfl (det_fieldAddr rfl fo_39_0) ?_
            refine JL_dt rfl (det_loadK rfl Try.isAgg3 rfl) ?_
            refine JL_pd rfl (det_fieldAddr rfl fo_39_0) ?_
            refine JL_dt rfl (det_loadK rfl Try.isAgg3 rfl) ?_
            refine JL_pd rfl (det_build rfl (bld_49_0_1 _ _)) ?_
            refine JL_step0 rfl rfl (jo_store rfl rfl rfl (by first | (simp only [splice_norm]; done) | (simp only [splice_norm]; rfl) | rfl) Try.sizeOf49 rfl rfl) fun _ => ?_
            refine JL_nil ?_
            refine JE_seq ?_
            refine JC_ret ?_
            refine JE_seq_ret ?_
            -- stop: out
            omega
          · refine JC_skip ?_
            refine JE_seq ?_
            refine JC_seq ?_
            refine JC_region ?_
            refine JL_pd rfl (det_build rfl (bld_49_0_1 _ _)) ?_
            refine JL_step0 rfl rfl (jo_store rfl rfl rfl (by first | (simp only [splice_norm]; done) | (simp only [splice_norm]; rfl) | rfl) Try.sizeOf49 rfl rfl) fun _ => ?_
            refine JL_nil ?_
            refine JE_seq ?_
            refine JC_seq ?_
            refine JC_seq ?_
            refine JC_region ?_
            refine JL_dt rfl (det_loadKA rfl Try.isAgg107 Try.sizeOf107 rfl rfl) ?_
            refine JL_dt rfl (det_loadK rfl Try.isAgg3 rfl) ?_
            refine JL_dt rfl (det_loadKA rfl Try.isAgg39 Try.sizeOf39 rfl rfl) ?_
            -- stop: op  3 t44 := (call (Call (value f66) (t41 t42 t43) (107 3 39)))   <0 1 2>   195
            refine JL_step rfl rfl rfl (jo_callx rfl rfl Try.call66 rfl (follow_j l row s ha pa hc pc g h0 (by omega) hon) ((List.Perm.refl _))) fun ⟨hb, sb⟩ => ?_
            refine JL_nil ?_
            refine JE_seq ?_
            refine JC_block ?_
            -- stop: rangeFunc
            have Hhk := hookOf_bd V row s.b
            have hlb : 1 ≤ s.b ∧ s.b ≤ l.boards := by simpa [onL] using hon
            have hb2 := V.b2
            refine JC_range (γ := MemoT l × Rg) (β := Nat) rfl rfl rfl rfl enter_follow (perm2 (mp mk ekSp vR m.1) (bx b8 [I 40, I 0])) (encTl (hk := hookOf l row s.b) (s := s))
              (fun xs => xs.map (fun x => x.1.1) = turnsOf (hookOf l row s.b)) (fun pre => ∃ k, k ≤ (turnsOf (hookOf l row s.b)).length ∧ pre.map (fun x => x.1.1) = (turnsOf (hookOf l row s.b)).take k) (turnsOf (hookOf l row s.b)).length [hb, sb]
              (fun w hD _ => follow_stops (hookOf l row s.b) s hb sb w Hhk.1 Hhk.2.2 d1 d2 (by omega) (by omega) (BoxK.know (R := saysAll _) (b := hb) w hD) (BoxK.know (R := saysAll _) (b := sb) w hD)) ?_ (fun _ => rfl) ?_
              (fun pre q => q.2 = (pre.map (fun x => turnN l n (row + 1) x.1.2)).foldl widen ⟨40, 0⟩) (fun _ _ _ => False)
              (fun q => [mp mk ekSp vR q.1.1, bx b8 [I q.2.lo, I q.2.hi]]) (m, ⟨40, 0⟩) ?_ rfl ?_ ?_ (fun x t => [(11, pt t), (2, pt bb), (3, pt bk), (4, pt bf), (5, pt b5), (6, pt b6), (8, pt b8)]) (fun x t => [bx t [I x.1.2.b, I x.1.2.d]]) ?_ ?_ ?_ ?_ ?_
            · intro b hb'; simp only [List.mem_cons, List.not_mem_nil, or_false] at hb'; rcases hb' with rfl | rfl
              · exact ⟨bx b [I (hookOf l row s.b).lo, I (hookOf l row s.b).hi], by simp, rfl⟩
              · exact ⟨bx b [I s.b, I s.d], by simp, rfl⟩
            · show ∀ p ∈ [45, 46], p < 84
              decide
            · rfl
            · rintro pre q _ c hc b hb
              simp only [List.mem_cons, List.not_mem_nil, or_false] at hc
              rcases hc with rfl | rfl
              · exact ⟨mp mk ekSp vR m.1, by simp, hb⟩
              · exact ⟨bx b8 [I 40, I 0], by simp, hb⟩
            · exact fun _ _ _ h => h.elim
            · intro x t c hc; simp only [List.mem_cons, List.not_mem_nil, or_false] at hc; subst hc; exact bx_cellish _ _
            · intro l' x W K0 hK0
              refine JC_region ?_
              refine JL_step rfl rfl rfl (jo_alloc0 Try.zeroValue39 rfl) fun b11 => ?_
              refine JL_step0 rfl rfl (jo_store rfl rfl rfl (by first | (simp only [splice_norm]; done) | (simp only [splice_norm]; rfl) | rfl) Try.sizeOf39 rfl rfl) fun _ => ?_
              refine JL_nil ?_
              -- stop: end
              exact JE_asg (hK0 b11) (stsub_cons rfl (stsub_cons rfl (stsub_cons rfl (stsub_cons rfl (stsub_cons rfl (stsub_cons rfl (stsub_cons rfl stsub_nil))))))) (hsub_cons hsub_nil) (fun _ h => trivial)
            · rintro l' pre x ⟨m1, o⟩ t W K1 QX hI hlen hK hX
              dsimp only at hI ⊢
              refine JC_block ?_
              refine JC_seq ?_
              refine JC_region ?_
              refine JL_dt rfl (det_loadK rfl Try.isAgg122 rfl) ?_
              refine JL_dt rfl (det_loadK rfl Try.isAgg3 rfl) ?_
              refine JL_pd rfl (det_add rfl rfl ⟨by omega, by omega⟩) ?_
              refine JL_dt rfl (det_loadKA rfl Try.isAgg39 Try.sizeOf39 rfl rfl) ?_
              -- stop: op  4 t51 := (call (Call (value t47) (t49 t50) (3 39)))   <0 2 3>   196
              refine JL_step rfl rfl rfl (jo_callx rfl rfl Try.call64 rfl (IH (row + 1) x.1.2 m1 (by omega) (by omega) (by rw [x.2.2.2]; exact (nextS_d _ _).1) (by rw [x.2.2.2]; exact (nextS_d _ _).2)) (pick_perm)) fun m2 => ?_
              refine JL_step rfl rfl rfl (jo_alloc0 Try.zeroValue49 rfl) fun b12 => ?_
              refine JL_step0 rfl rfl (jo_store rfl rfl rfl (by first | (simp only [splice_norm]; done) | (simp only [splice_norm]; rfl) | rfl) Try.sizeOf49 rfl rfl) fun _ => ?_
              refine JL_nil ?_
              refine JE_seq ?_
              refine JC_draw [13] (by kernel_rfl) ?_
              refine JA_pd (i := 0) rfl (by kernel_rfl) rfl rfl (det_fieldAddr rfl fo_49_0) ?_
              refine JA_dt (i := 1) rfl (by kernel_rfl) (by kernel_rfl) rfl rfl (det_loadK rfl Try.isAgg3 rfl) ?_
              refine JA_pd (i := 2) rfl (by kernel_rfl) rfl rfl (det_fieldAddr rfl fo_49_0) ?_
              refine JA_dt (i := 3) rfl (by kernel_rfl) (by kernel_rfl) rfl rfl (det_loadK rfl Try.isAgg3 rfl) ?_
              refine JA_pd (i := 6) rfl (by kernel_rfl) rfl rfl (det_fieldAddr rfl fo_49_1) ?_
              refine JA_dt (i := 7) rfl (by kernel_rfl) (by kernel_rfl) rfl rfl (det_loadK rfl Try.isAgg3 rfl) ?_
              refine JA_pd (i := 8) rfl (by kernel_rfl) rfl rfl (det_fieldAddr rfl fo_49_1) ?_
              refine JA_dt (i := 9) rfl (by kernel_rfl) (by kernel_rfl) rfl rfl (det_loadK rfl Try.isAgg3 rfl) ?_
              -- stop: multi [4, 10]
              have hI2 : widen o (turnN l n (row + 1) x.1.2) = ((pre ++ [x]).map (fun x => turnN l n (row + 1) x.1.2)).foldl widen ⟨40, 0⟩ := by
                rw [List.map_append, List.foldl_append, ← hI]; rfl
              refine JA_ready (rs := [4, 10]) (by kernel_rfl) rfl ?_
              refine JAl_cons (i := 4) rfl rfl rfl (jo_buildSlice rfl (bsl_75_2_0_1 _ _)) (fun _ => ⟨hsub_drop 1 rfl, fun _ h => h⟩) (fun b56 => ?_) ?_
              · refine JA_ready (rs := [5, 10]) (by kernel_rfl) rfl ?_
                refine JAl_cons (i := 5) rfl rfl rfl (jo_callx rfl rfl Try.call67 rfl (least_jx _ _ b56) ((perm_bx b56))) (fun _ => ⟨by first | exact hsub_drop 0 rfl | exact hsub_all, fun _ h => h.2⟩) (fun x57 => ?_) ?_
                · refine JA_one (i := 10) (by kernel_rfl) rfl rfl rfl (jo_buildSlice rfl (bsl_75_2_0_1 _ _)) (fun _ => ⟨hsub_drop 1 rfl, fun _ h => h⟩) fun b62 => ?_
                  refine JA_one (i := 11) (by kernel_rfl) rfl rfl rfl (jo_callx rfl rfl Try.call68 rfl (greatest_jx _ _ b62) ((perm_bx b62))) (fun _ => ⟨by first | exact hsub_drop 0 rfl | exact hsub_all, fun _ h => h.2⟩) fun x63 => ?_
                  refine JA_pd (i := 12) rfl (by kernel_rfl) rfl rfl (det_build rfl (bld_49_0_1 _ _)) ?_
                  refine JA_tail (i := 13) (by kernel_rfl) rfl rfl rfl rfl rfl (jo_store rfl rfl rfl (by first | (simp only [splice_norm]; done) | (simp only [splice_norm]; rfl) | rfl) Try.sizeOf49 rfl rfl) fun _ => ?_
                  refine JT_done (by kernel_rfl) ?_
                  refine JE_block ?_
                  refine JE_next (fun st' R' a' W' => hK (m2, widen o (turnN l n (row + 1) x.1.2)) hI2 st' R' a' W') (hsub_cons (hsub_bx rfl hsub_nil))
                refine JAl_cons (i := 10) rfl rfl rfl (jo_buildSlice rfl (bsl_75_2_0_1 _ _)) (fun _ => ⟨hsub_drop 1 rfl, fun _ h => h⟩) (fun b62 => ?_) ?_
                · refine JA_one (i := 5) (by kernel_rfl) rfl rfl rfl (jo_callx rfl rfl Try.call67 rfl (least_jx _ _ b56) ((perm_bx b56))) (fun _ => ⟨by first | exact hsub_drop 0 rfl | exact hsub_all, fun _ h => h.2⟩) fun x57 => ?_
                  refine JA_one (i := 11) (by kernel_rfl) rfl rfl rfl (jo_callx rfl rfl Try.call68 rfl (greatest_jx _ _ b62) ((perm_bx b62))) (fun _ => ⟨by first | exact hsub_drop 0 rfl | exact hsub_all, fun _ h => h.2⟩) fun x63 => ?_
                  refine JA_pd (i := 12) rfl (by kernel_rfl) rfl rfl (det_build rfl (bld_49_0_1 _ _)) ?_
                  refine JA_tail (i := 13) (by kernel_rfl) rfl rfl rfl rfl rfl (jo_store rfl rfl rfl (by first | (simp only [splice_norm]; done) | (simp only [splice_norm]; rfl) | rfl) Try.sizeOf49 rfl rfl) fun _ => ?_
                  refine JT_done (by kernel_rfl) ?_
                  refine JE_block ?_
                  refine JE_next (fun st' R' a' W' => hK (m2, widen o (turnN l n (row + 1) x.1.2)) hI2 st' R' a' W') (hsub_cons (hsub_bx rfl hsub_nil))
                exact JAl_nil
              refine JAl_cons (i := 10) rfl rfl rfl (jo_buildSlice rfl (bsl_75_2_0_1 _ _)) (fun _ => ⟨hsub_drop 1 rfl, fun _ h => h⟩) (fun b62 => ?_) ?_
              · refine JA_one (i := 4) (by kernel_rfl) rfl rfl rfl (jo_buildSlice rfl (bsl_75_2_0_1 _ _)) (fun _ => ⟨hsub_drop 1 rfl, fun _ h => h⟩) fun b56 => ?_
                refine JA_one (i := 5) (by kernel_rfl) rfl rfl rfl (jo_callx rfl rfl Try.call67 rfl (least_jx _ _ b56) ((perm_bx b56))) (fun _ => ⟨by first | exact hsub_drop 0 rfl | exact hsub_all, fun _ h => h.2⟩) fun x57 => ?_
                refine JA_one (i := 11) (by kernel_rfl) rfl rfl rfl (jo_callx rfl rfl Try.call68 rfl (greatest_jx _ _ b62) ((perm_bx b62))) (fun _ => ⟨by first | exact hsub_drop 0 rfl | exact hsub_all, fun _ h => h.2⟩) fun x63 => ?_
                refine JA_pd (i := 12) rfl (by kernel_rfl) rfl rfl (det_build rfl (bld_49_0_1 _ _)) ?_
                refine JA_tail (i := 13) (by kernel_rfl) rfl rfl rfl rfl rfl (jo_store rfl rfl rfl (by first | (simp only [splice_norm]; done) | (simp only [splice_norm]; rfl) | rfl) Try.sizeOf49 rfl rfl) fun _ => ?_
                refine JT_done (by kernel_rfl) ?_
                refine JE_block ?_
                refine JE_next (fun st' R' a' W' => hK (m2, widen o (turnN l n (row + 1) x.1.2)) hI2 st' R' a' W') (hsub_cons (hsub_bx rfl hsub_nil))
              exact JAl_nil
            · rintro xs ⟨m1, o⟩ hS hI
              dsimp only at hI ⊢
              have hres : turnN l (n + 1) row s = ⟨max o.lo s.b, max o.hi s.b⟩ := by
                have : (stepsOf l row s).map (turnN l n (row + 1)) = xs.map (fun x => turnN l n (row + 1) x.1.2) := by
                  unfold stepsOf
                  rw [← hS, List.map_map, List.map_map]
                  refine List.map_congr_left fun x _ => ?_
                  simp only [Function.comp_apply]
                  rw [← x.2.2.2]
                simp [turnN, hon, this, ← hI]
              refine JE_block ?_
              refine JE_seq ?_
              refine JC_seq ?_
              -- stop: draw
              refine JC_cut2 (γ := Unit) (fun _ => True) (fun _ => [(2, pt bb), (3, pt bk), (4, pt bf), (5, pt b5), (6, pt b6), (7, pt b7), (8, pt b8)])
                (fun _ => [mp mk ekSp vR m1.1, bx b5 [I row], bx b6 [I s.b, I s.d], bx b7 [I 0, I 0], bx b8 [I (max o.lo s.b), I (max o.hi s.b)]]) (fun _ => KBox bk [.map (some mk)]) ?_ ?_
              · intro K hK
                refine JC_draw [13] (by kernel_rfl) ?_
                refine JA_pd (i := 0) rfl (by kernel_rfl) rfl rfl (det_fieldAddr rfl fo_49_0) ?_
                refine JA_dt (i := 1) rfl (by kernel_rfl) (by kernel_rfl) rfl rfl (det_loadK rfl Try.isAgg3 rfl) ?_
                refine JA_pd (i := 2) rfl (by kernel_rfl) rfl rfl (det_fieldAddr rfl fo_39_0) ?_
                refine JA_dt (i := 3) rfl (by kernel_rfl) (by kernel_rfl) rfl rfl (det_loadK rfl Try.isAgg3 rfl) ?_
                refine JA_pd (i := 6) rfl (by kernel_rfl) rfl rfl (det_fieldAddr rfl fo_49_1) ?_
                refine JA_dt (i := 7) rfl (by kernel_rfl) (by kernel_rfl) rfl rfl (det_loadK rfl Try.isAgg3 rfl) ?_
                refine JA_pd (i := 8) rfl (by kernel_rfl) rfl rfl (det_fieldAddr rfl fo_39_0) ?_
                refine JA_dt (i := 9) rfl (by kernel_rfl) (by kernel_rfl) rfl rfl (det_loadK rfl Try.isAgg3 rfl) ?_
                -- stop: multi [4, 10]
                refine JA_ready (rs := [4, 10]) (by kernel_rfl) rfl ?_
                refine JAl_cons (i := 4) rfl rfl rfl (jo_buildSlice rfl (bsl_75_2_0_1 _ _)) (fun _ => ⟨hsub_drop 1 rfl, fun _ h => h⟩) (fun b69 => ?_) ?_
                · refine JA_ready (rs := [5, 10]) (by kernel_rfl) rfl ?_
                  refine JAl_cons (i := 5) rfl rfl rfl (jo_callx rfl rfl Try.call68 rfl (greatest_jx _ _ b69) ((perm_bx b69))) (fun _ => ⟨by first | exact hsub_drop 0 rfl | exact hsub_all, fun _ h => h.2⟩) (fun x70 => ?_) ?_
                  · refine JA_one (i := 10) (by kernel_rfl) rfl rfl rfl (jo_buildSlice rfl (bsl_75_2_0_1 _ _)) (fun _ => ⟨hsub_drop 1 rfl, fun _ h => h⟩) fun b75 => ?_
                    refine JA_one (i := 11) (by kernel_rfl) rfl rfl rfl (jo_callx rfl rfl Try.call68 rfl (greatest_jx _ _ b75) ((perm_bx b75))) (fun _ => ⟨by first | exact hsub_drop 0 rfl | exact hsub_all, fun _ h => h.2⟩) fun x76 => ?_
                    refine JA_pd (i := 12) rfl (by kernel_rfl) rfl rfl (det_build rfl (bld_49_0_1 _ _)) ?_
                    refine JA_tail (i := 13) (by kernel_rfl) rfl rfl rfl rfl rfl (jo_store rfl rfl rfl (by first | (simp only [splice_norm]; done) | (simp only [splice_norm]; rfl) | rfl) Try.sizeOf49 rfl rfl) fun _ => ?_
                    refine JT_done (by kernel_rfl) ?_
                    exact JE_cut hK () trivial (stsub_cons rfl (stsub_cons rfl (stsub_cons rfl (stsub_cons rfl (stsub_cons rfl (stsub_cons rfl (stsub_cons rfl stsub_nil))))))) (hsub_cons (hsub_bx rfl (hsub_bx rfl (hsub_bx rfl (hsub_bx rfl hsub_nil))))) Knows.know
                  refine JAl_cons (i := 10) rfl rfl rfl (jo_buildSlice rfl (bsl_75_2_0_1 _ _)) (fun _ => ⟨hsub_drop 1 rfl, fun _ h => h⟩) (fun b75 => ?_) ?_
                  · refine JA_one (i := 5) (by kernel_rfl) rfl rfl rfl (jo_callx rfl rfl Try.call68 rfl (greatest_jx _ _ b69) ((perm_bx b69))) (fun _ => ⟨by first | exact hsub_drop 0 rfl | exact hsub_all, fun _ h => h.2⟩) fun x70 => ?_
                    refine JA_one (i := 11) (by kernel_rfl) rfl rfl rfl (jo_callx rfl rfl Try.call68 rfl (greatest_jx _ _ b75) ((perm_bx b75))) (fun _ => ⟨by first | exact hsub_drop 0 rfl | exact hsub_all, fun _ h => h.2⟩) fun x76 => ?_
                    refine JA_pd (i := 12) rfl (by kernel_rfl) rfl rfl (det_build rfl (bld_49_0_1 _ _)) ?_
                    refine JA_tail (i := 13) (by kernel_rfl) rfl rfl rfl rfl rfl (jo_store rfl rfl rfl (by first | (simp only [splice_norm]; done) | (simp only [splice_norm]; rfl) | rfl) Try.sizeOf49 rfl rfl) fun _ => ?_
                    refine JT_done (by kernel_rfl) ?_
                    exact JE_cut hK () trivial (stsub_cons rfl (stsub_cons rfl (stsub_cons rfl (stsub_cons rfl (stsub_cons rfl (stsub_cons rfl (stsub_cons rfl stsub_nil))))))) (hsub_cons (hsub_bx rfl (hsub_bx rfl (hsub_bx rfl (hsub_bx rfl hsub_nil))))) Knows.know
                  exact JAl_nil
                refine JAl_cons (i := 10) rfl rfl rfl (jo_buildSlice rfl (bsl_75_2_0_1 _ _)) (fun _ => ⟨hsub_drop 1 rfl, fun _ h => h⟩) (fun b75 => ?_) ?_
                · refine JA_one (i := 4) (by kernel_rfl) rfl rfl rfl (jo_buildSlice rfl (bsl_75_2_0_1 _ _)) (fun _ => ⟨hsub_drop 1 rfl, fun _ h => h⟩) fun b69 => ?_
                  refine JA_one (i := 5) (by kernel_rfl) rfl rfl rfl (jo_callx rfl rfl Try.call68 rfl (greatest_jx _ _ b69) ((perm_bx b69))) (fun _ => ⟨by first | exact hsub_drop 0 rfl | exact hsub_all, fun _ h => h.2⟩) fun x70 => ?_
                  refine JA_one (i := 11) (by kernel_rfl) rfl rfl rfl (jo_callx rfl rfl Try.call68 rfl (greatest_jx _ _ b75) ((perm_bx b75))) (fun _ => ⟨by first | exact hsub_drop 0 rfl | exact hsub_all, fun _ h => h.2⟩) fun x76 => ?_
                  refine JA_pd (i := 12) rfl (by kernel_rfl) rfl rfl (det_build rfl (bld_49_0_1 _ _)) ?_
                  refine JA_tail (i := 13) (by kernel_rfl) rfl rfl rfl rfl rfl (jo_store rfl rfl rfl (by first | (simp only [splice_norm]; done) | (simp only [splice_norm]; rfl) | rfl) Try.sizeOf49 rfl rfl) fun _ => ?_
                  refine JT_done (by kernel_rfl) ?_
                  exact JE_cut hK () trivial (stsub_cons rfl (stsub_cons rfl (stsub_cons rfl (stsub_cons rfl (stsub_cons rfl (stsub_cons rfl (stsub_cons rfl stsub_nil))))))) (hsub_cons (hsub_bx rfl (hsub_bx rfl (hsub_bx rfl (hsub_bx rfl hsub_nil))))) Knows.know
                exact JAl_nil
              · rintro - -
                refine JC_seq ?_
                refine JC_region ?_
                refine JL_dt rfl (det_loadK rfl Try.isAgg121 rfl) ?_
                refine JL_dt rfl (det_loadK rfl Try.isAgg3 rfl) ?_
                refine JL_dt rfl (det_loadKA rfl Try.isAgg39 Try.sizeOf39 rfl rfl) ?_
                refine JL_pd rfl (det_build rfl (bld_126_0_1 _ _ _)) ?_
                refine JL_dt rfl (det_loadKA rfl Try.isAgg49 Try.sizeOf49 rfl rfl) ?_
                -- stop: op  5 _ := (mapUpdate 121 t78 t81 t82)   <0 3 4>   200
                refine JL_step0 rfl rfl (jo_mapUpdate (row, s) ⟨max o.lo s.b, max o.hi s.b⟩ (.inl rfl) rfl rfl rfl goodSp Try.underlying121) fun _ => ?_
                refine JL_nil ?_
                refine JE_seq ?_
                refine JC_seq ?_
                refine JC_region ?_
                refine JL_dt rfl (det_loadKA rfl Try.isAgg49 Try.sizeOf49 rfl rfl) ?_
                refine JL_step0 rfl rfl (jo_store rfl rfl rfl (by first | (simp only [splice_norm]; done) | (simp only [splice_norm]; rfl) | rfl) Try.sizeOf49 rfl rfl) fun _ => ?_
                refine JL_nil ?_
                refine JE_seq ?_
                refine JC_ret ?_
                -- stop: out
                refine JE_out (.inl rfl) ⟨upd m1.1 (row, s) ⟨max o.lo s.b, max o.hi s.b⟩, m1.2.upd (by rw [hrw, hres])⟩ (results1 Try.results64 (res_box rfl Try.isAgg49 Try.sizeOf49 rfl)) (by rw [hres]) pick_perm (fun _ _ => trivial)
            · exact fun _ _ _ _ h => h.elim
      · skip
        refine JL_dt rfl (det_lookup2S hmk rfl rfl goodSp Try.underlying121 Try.zeroValue49) ?_
        refine JL_pd rfl (det_move rfl) ?_
        refine JL_pd rfl (det_extract rfl rfl) ?_
        refine JL_pd rfl (det_extract rfl rfl) ?_
        refine JL_step rfl rfl rfl (jo_alloc0 Try.zeroValue49 rfl) fun b8 => ?_
        refine JL_step0 rfl rfl (jo_store rfl rfl rfl (by first | (simp only [splice_norm]; done) | (simp only [splice_norm]; rfl) | rfl) Try.sizeOf49 rfl rfl) fun _ => ?_
        refine JL_pd rfl (det_assign rfl) ?_
        refine JL_nil ?_
        refine JE_seq ?_
        refine JC_seq ?_
        refine JC_seq ?_
        refine JC_region ?_
        refine JL_pd rfl (det_move rfl) ?_
        refine JL_nil ?_
        refine JE_seq ?_
        -- stop: cond
        refine JC_cond rfl (fun hno => ?_) (fun hno => ?_)
        · refine JC_seq ?_
          refine JC_region ?_
          refine JL_dt rfl (det_loadKA rfl Try.isAgg49 Try.sizeOf49 rfl rfl) ?_
          refine JL_step0 rfl rfl (jo_store rfl rfl rfl (by first | (simp only [splice_norm]; done) | (simp only [splice_norm]; rfl) | rfl) Try.sizeOf49 rfl rfl) fun _ => ?_
          refine JL_nil ?_
          refine JE_seq ?_
          refine JC_ret ?_
          refine JE_seq_ret ?_
          -- stop: out
          refine JE_out (.inl rfl) m (results1 Try.results64 (res_box rfl Try.isAgg49 Try.sizeOf49 rfl)) (by rw [m.2 _ _ hmk]; rw [show (l.rows - 1 - (row, s).1).toNat = n + 1 from by show (l.rows - 1 - row).toNat = _; omega]) pick_perm (fun _ _ => trivial)
        · refine JC_skip ?_
          refine JE_seq ?_
          refine JC_seq ?_
          refine JC_seq ?_
          refine JC_region ?_
          refine JL_dt rfl (det_loadK rfl Try.isAgg3 rfl) ?_
          refine JL_pd rfl (det_fieldAddr rfl fo_107_0) ?_
          refine JL_pd rfl (det_fieldAddr rfl fo_37_1) ?_
          refine JL_dt rfl (det_loadK rfl Try.isAgg3 rfl) ?_
          refine JL_pd rfl (det_sub rfl rfl ⟨by omega, by omega⟩) ?_
          refine JL_pd rfl (det_eql rfl rfl) ?_
          refine JL_nil ?_
          refine JE_seq ?_
          -- stop: cond
          cases hno
end Go.Proofs.Ytcfhbnfincpehaa
