/- Walks of package path: follow, pockets, aimers, can. -/
import Derived.Test.YtcfhbnfincpehaaW1
import Derived.Test.YtcfhbnfincpehaaJ9
import Derived.Test.YtcfhbnfincpehaaPathL
namespace Go.Proofs.Ytcfhbnfincpehaa
open Go.RowKit Go.Shelf

/-- How the lists of a lane lie. -/
abbrev KLane (l : La) (ha : Option Addr) (hc : Nat) (pa : Option Addr) (pc : Nat) : World → Prop := KAnd (KSl ha l.hooks.length hc encRg l.hooks) (KSl pa l.patches.length pc encPa l.patches)
/-- How a ball lies. -/
def KBall (l : La) (ha : Option Addr) (hc : Nat) (pa : Option Addr) (pc g : Nat) : World → Prop := fun w => BallAt w l ha hc pa pc g
theorem KLane.at_ {l : La} {ha pa : Option Addr} {hc pc : Nat} {w : World} (h : KLane l ha hc pa pc w) : LaneAt w l ha hc pa pc := ⟨h.1.1, h.2.1⟩
theorem at_KLane {l : La} {ha pa : Option Addr} {hc pc : Nat} {w : World} (h : LaneAt w l ha hc pa pc) : KLane l ha hc pa pc w := ⟨⟨h.1, rfl⟩, ⟨h.2, rfl⟩⟩

theorem CheckLane_j (l : La) (ha pa : Option Addr) (hc pc : Nat) : Cv Try.prog 41 [.agg #[I l.boards, I l.rows, .slice ha l.hooks.length hc, .slice pa l.patches.length pc]] (KLane l ha hc pa pc) (I (fault l)) :=
  Cv_of fun w h => CheckLane_any l ha pa hc pc w h.at_
theorem ball_j (l : La) (ha pa : Option Addr) (hc pc : Nat) (V : Valid l) : Cr Try.prog 72 [.agg #[I l.boards, I l.rows, .slice ha l.hooks.length hc, .slice pa l.patches.length pc]] (KLane l ha hc pa pc) (fun g : Nat => .agg #[I l.boards, I l.rows, .slice ha l.hooks.length hc, .slice pa l.patches.length pc, .slice (some ⟨g, 0, none⟩) l.rows.toNat l.rows.toNat]) (fun g => KBall l ha hc pa pc g) :=
  Cr_of fun w h => (balls_any l ha pa hc pc w h.at_ V).mono fun e w' ⟨g, he, hg, hB, hb⟩ => ⟨g, he, hb, fun w2 h2 hz hn => by
    obtain ⟨h1, h3, cs, ⟨T, hx⟩, h4⟩ := hB
    exact ⟨h2.at_, h3, cs, ⟨T, (hn g hg (Array.getElem?_eq_some_iff.1 hx).1).trans hx⟩, h4⟩⟩
theorem hooks_j (l : La) (row : Int) (s : St) (ha pa : Option Addr) (hc pc g : Nat) (h1 : 0 ≤ row) (h2 : row < l.rows) (h3 : onL l s = true) :
    Cv Try.prog 80 [.agg #[I l.boards, I l.rows, .slice ha l.hooks.length hc, .slice pa l.patches.length pc, .slice (some ⟨g, 0, none⟩) l.rows.toNat l.rows.toNat], I row, .agg #[I s.b, I s.d]] (KBall l ha hc pa pc g) (.agg #[I (hookOf l row s.b).lo, I (hookOf l row s.b).hi]) :=
  Cv_of fun w h => hooks_any l row s ha pa hc pc g w h h1 h2 h3
theorem next_j (s : St) (t : Int) (h1 : -5 ≤ s.d) (h2 : s.d ≤ 5) (h3 : -3 ≤ t) (h4 : t ≤ 3) (h5 : -1000 ≤ s.b) (h6 : s.b ≤ 1000) : Cv Try.prog 82 [.agg #[I s.b, I s.d], I t] KTrue (.agg #[I (nextS s t).b, I (nextS s t).d]) :=
  Cv_of fun w _ => next_any s t w h1 h2 h3 h4 h5 h6

/-- follow: the iterator, over two boxes of its own. -/
theorem follow_j (l : La) (row : Int) (s : St) (ha pa : Option Addr) (hc pc g : Nat) (h1 : 0 ≤ row) (h2 : row < l.rows) (h3 : onL l s = true) :
    Cx Try.prog 66 [.agg #[I l.boards, I l.rows, .slice ha l.hooks.length hc, .slice pa l.patches.length pc, .slice (some ⟨g, 0, none⟩) l.rows.toNat l.rows.toNat], I row, .agg #[I s.b, I s.d]] [] (KBall l ha hc pa pc g) (fun p : Nat × Nat => .func (.func 88) #[] #[.pointer (some ⟨p.1, 0, none⟩), .pointer (some ⟨p.2, 0, none⟩)])
      (fun p => [bx p.1 [I (hookOf l row s.b).lo, I (hookOf l row s.b).hi], bx p.2 [I s.b, I s.d]]) (fun _ => KTrue) := by
  refine Cx_of Try.func66 rfl Try.ntmps66 rfl fun w0 M0 => ?_
  refine JC_seq ?_
  refine JC_region ?_
  refine JL_step rfl rfl rfl (jo_box rfl rfl) fun b3 => ?_
  refine JL_step rfl rfl rfl (jo_box rfl rfl) fun b5 => ?_
  refine JL_pd rfl (det_assign rfl) ?_
  refine JL_nil ?_
  refine JE_seq ?_
  refine JC_seq ?_
  refine JC_region ?_
  refine JL_dt rfl (det_loadKA rfl Try.isAgg107 Try.sizeOf107 rfl rfl) ?_
  refine JL_pd rfl (det_move rfl) ?_
  refine JL_dt rfl (det_loadKA rfl Try.isAgg39 Try.sizeOf39 rfl rfl) ?_
  -- stop: op  3 t11 := (call (Call (value f80) (t8 t9 t10) (107 3 39)))   <0 1 2>   114
  refine JL_step rfl rfl rfl (jo_callv rfl rfl Try.call80 rfl (hooks_j l row s ha pa hc pc g h1 h2 h3)) fun _ => ?_
  refine JL_step rfl rfl rfl (jo_alloc0 Try.zeroValue49 rfl) fun b7 => ?_
  refine JL_step0 rfl rfl (jo_store rfl rfl rfl (by first | (simp only [splice_norm]; done) | (simp only [splice_norm]; rfl) | rfl) Try.sizeOf49 rfl rfl) fun _ => ?_
  refine JL_nil ?_
  refine JE_seq ?_
  refine JC_seq ?_
  refine JC_region ?_
  refine JL_pd rfl (det_makeFuncE rfl rfl) ?_
  refine JL_pd rfl (det_assign rfl) ?_
  refine JL_nil ?_
  refine JE_seq ?_
  refine JC_ret ?_
  -- stop: out
  refine JE_out (.inl rfl) (b7, b5) (results1 Try.results66 (res_tmp rfl)) rfl (List.Perm.refl _) (fun _ _ => trivial)

theorem hit_j (p : Pk) (arrived : Bool) (s : St) : Cv Try.prog 91 [.agg #[I p.boards.lo, I p.boards.hi, I p.dirs.lo, I p.dirs.hi], .bool arrived, .agg #[I s.b, I s.d]] KTrue (.bool (hitsP p arrived s)) := by
  refine Cx_of Try.func91 rfl Try.ntmps91 rfl fun w0 M0 => ?_
  refine JC_seq ?_
  refine JC_region ?_
  refine JL_step rfl rfl rfl (jo_box rfl rfl) fun b3 => ?_
  refine JL_step rfl rfl rfl (jo_box rfl rfl) fun b5 => ?_
  refine JL_pd rfl (det_assign rfl) ?_
  refine JL_nil ?_
  refine JE_seq ?_
  refine JC_seq ?_
  refine JC_region ?_
  refine JL_pd rfl (det_move rfl) ?_
  refine JL_pd rfl (det_move rfl) ?_
  refine JL_split (d0 := 8) rfl (fun h1 => ?_) (fun h1 => ?_)
  · refine JL_guard rfl rfl h1 ?_
    refine JL_pd rfl (det_fieldAddr rfl fo_62_0) ?_
    refine JL_guard rfl rfl h1 ?_
    refine JL_dt rfl (det_loadKA rfl Try.isAgg49 Try.sizeOf49 rfl rfl) ?_
    refine JL_guard rfl rfl h1 ?_
    refine JL_pd rfl (det_fieldAddr rfl fo_39_0) ?_
    refine JL_guard rfl rfl h1 ?_
    refine JL_dt rfl (det_loadK rfl Try.isAgg3 rfl) ?_
    refine JL_guard rfl rfl h1 ?_
    refine JL_step rfl rfl rfl (jo_callv rfl rfl Try.call81 rfl (has_j ⟨_, _⟩ _)) fun _ => ?_
    refine JL_pd rfl (det_pick_t rfl h1 rfl) ?_
    refine JL_pd rfl (det_move rfl) ?_
    refine JL_split (d0 := 15) rfl (fun h2 => ?_) (fun h2 => ?_)
    · refine JL_guard rfl rfl h2 ?_
      refine JL_pd rfl (det_fieldAddr rfl fo_62_1) ?_
      refine JL_guard rfl rfl h2 ?_
      refine JL_dt rfl (det_loadKA rfl Try.isAgg49 Try.sizeOf49 rfl rfl) ?_
      refine JL_guard rfl rfl h2 ?_
      refine JL_pd rfl (det_fieldAddr rfl fo_39_1) ?_
      refine JL_guard rfl rfl h2 ?_
      refine JL_dt rfl (det_loadK rfl Try.isAgg3 rfl) ?_
      refine JL_guard rfl rfl h2 ?_
      refine JL_step rfl rfl rfl (jo_callv rfl rfl Try.call81 rfl (has_j ⟨_, _⟩ _)) fun _ => ?_
      refine JL_pd rfl (det_pick_t rfl h2 rfl) ?_
      refine JL_pd rfl (det_assign rfl) ?_
      refine JL_nil ?_
      refine JE_seq ?_
      refine JC_ret ?_
      refine JE_out (.inl rfl) () (results1 Try.results91 (res_tmp rfl)) ?_ (List.Perm.refl _) (fun _ _ => trivial)
      (first | (simp_all [hitsP, inR]; done) | (simp_all [hitsP, inR]; grind))
    · refine JL_skip rfl rfl h2 rfl ?_
      refine JL_skip rfl rfl h2 rfl ?_
      refine JL_skip rfl rfl h2 rfl ?_
      refine JL_skip rfl rfl h2 rfl ?_
      refine JL_skip rfl rfl h2 rfl ?_
      refine JL_pd rfl (det_pick_f rfl h2 rfl) ?_
      refine JL_pd rfl (det_assign rfl) ?_
      refine JL_nil ?_
      refine JE_seq ?_
      refine JC_ret ?_
      refine JE_out (.inl rfl) () (results1 Try.results91 (res_tmp rfl)) ?_ (List.Perm.refl _) (fun _ _ => trivial)
      (first | (simp_all [hitsP, inR]; done) | (simp_all [hitsP, inR]; grind))
  · refine JL_skip rfl rfl h1 rfl ?_
    refine JL_skip rfl rfl h1 rfl ?_
    refine JL_skip rfl rfl h1 rfl ?_
    refine JL_skip rfl rfl h1 rfl ?_
    refine JL_skip rfl rfl h1 rfl ?_
    refine JL_pd rfl (det_pick_f rfl h1 rfl) ?_
    refine JL_pd rfl (det_move rfl) ?_
    refine JL_split (d0 := 15) rfl (fun h3 => ?_) (fun h3 => ?_)
    · refine JL_guard rfl rfl h3 ?_
      refine JL_pd rfl (det_fieldAddr rfl fo_62_1) ?_
      refine JL_guard rfl rfl h3 ?_
      refine JL_dt rfl (det_loadKA rfl Try.isAgg49 Try.sizeOf49 rfl rfl) ?_
      refine JL_guard rfl rfl h3 ?_
      refine JL_pd rfl (det_fieldAddr rfl fo_39_1) ?_
      refine JL_guard rfl rfl h3 ?_
      refine JL_dt rfl (det_loadK rfl Try.isAgg3 rfl) ?_
      refine JL_guard rfl rfl h3 ?_
      refine JL_step rfl rfl rfl (jo_callv rfl rfl Try.call81 rfl (has_j ⟨_, _⟩ _)) fun _ => ?_
      refine JL_pd rfl (det_pick_t rfl h3 rfl) ?_
      refine JL_pd rfl (det_assign rfl) ?_
      refine JL_nil ?_
      refine JE_seq ?_
      refine JC_ret ?_
      refine JE_out (.inl rfl) () (results1 Try.results91 (res_tmp rfl)) ?_ (List.Perm.refl _) (fun _ _ => trivial)
      (first | (simp_all [hitsP, inR]; done) | (simp_all [hitsP, inR]; grind))
    · refine JL_skip rfl rfl h3 rfl ?_
      refine JL_skip rfl rfl h3 rfl ?_
      refine JL_skip rfl rfl h3 rfl ?_
      refine JL_skip rfl rfl h3 rfl ?_
      refine JL_skip rfl rfl h3 rfl ?_
      refine JL_pd rfl (det_pick_f rfl h3 rfl) ?_
      refine JL_pd rfl (det_assign rfl) ?_
      refine JL_nil ?_
      refine JE_seq ?_
      refine JC_ret ?_
      refine JE_out (.inl rfl) () (results1 Try.results91 (res_tmp rfl)) ?_ (List.Perm.refl _) (fun _ _ => trivial)
      (first | (simp_all [hitsP, inR]; done) | (simp_all [hitsP, inR]; grind))
theorem miss_j (p : Pk) (arrived : Bool) (s : St) : Cv Try.prog 92 [.agg #[I p.boards.lo, I p.boards.hi, I p.dirs.lo, I p.dirs.hi], .bool arrived, .agg #[I s.b, I s.d]] KTrue (.bool (!hitsP p arrived s)) := by
  refine Cx_of Try.func92 rfl Try.ntmps92 rfl fun w0 M0 => ?_
  refine JC_seq ?_
  refine JC_region ?_
  refine JL_step rfl rfl rfl (jo_box rfl rfl) fun b3 => ?_
  refine JL_step rfl rfl rfl (jo_box rfl rfl) fun b5 => ?_
  refine JL_pd rfl (det_assign rfl) ?_
  refine JL_nil ?_
  refine JE_seq ?_
  refine JC_seq ?_
  refine JC_region ?_
  refine JL_dt rfl (det_loadKA rfl Try.isAgg62 Try.sizeOf62 rfl rfl) ?_
  refine JL_pd rfl (det_move rfl) ?_
  refine JL_dt rfl (det_loadKA rfl Try.isAgg39 Try.sizeOf39 rfl rfl) ?_
  refine JL_step rfl rfl rfl (jo_callv rfl rfl Try.call91 rfl (hit_j ⟨⟨_, _⟩, ⟨_, _⟩⟩ _ ⟨_, _⟩)) fun _ => ?_
  refine JL_pd rfl (det_not rfl) ?_
  refine JL_pd rfl (det_assign rfl) ?_
  refine JL_nil ?_
  refine JE_seq ?_
  refine JC_ret ?_
  refine JE_out (.inl rfl) () (results1 Try.results92 (res_tmp rfl)) ?_ (List.Perm.refl _) (fun _ _ => trivial)
  rfl
theorem valid_j (p : Pk) : Cv Try.prog 71 [.agg #[I p.boards.lo, I p.boards.hi, I p.dirs.lo, I p.dirs.hi]] KTrue (.bool (isPocket p)) := by
  refine Cx_of Try.func71 rfl Try.ntmps71 rfl fun w0 M0 => ?_
  refine JC_seq ?_
  refine JC_region ?_
  refine JL_step rfl rfl rfl (jo_box rfl rfl) fun b1 => ?_
  refine JL_pd rfl (det_assign rfl) ?_
  refine JL_nil ?_
  refine JE_seq ?_
  refine JC_seq ?_
  refine JC_region ?_
  refine JL_pd rfl (det_fieldAddr rfl fo_62_0) ?_
  refine JL_pd rfl (det_fieldAddr rfl fo_49_0) ?_
  refine JL_dt rfl (det_loadK rfl Try.isAgg3 rfl) ?_
  refine JL_pd rfl (det_fieldAddr rfl fo_62_0) ?_
  refine JL_pd rfl (det_fieldAddr rfl fo_49_1) ?_
  refine JL_dt rfl (det_loadK rfl Try.isAgg3 rfl) ?_
  refine JL_pd rfl (det_leq rfl rfl) ?_
  refine JL_pd rfl (det_move rfl) ?_
  refine JL_split (d0 := 10) rfl (fun h1 => ?_) (fun h1 => ?_)
  · refine JL_guard rfl rfl h1 ?_
    refine JL_pd rfl (det_fieldAddr rfl fo_62_1) ?_
    refine JL_guard rfl rfl h1 ?_
    refine JL_pd rfl (det_fieldAddr rfl fo_49_0) ?_
    refine JL_guard rfl rfl h1 ?_
    refine JL_dt rfl (det_loadK rfl Try.isAgg3 rfl) ?_
    refine JL_guard rfl rfl h1 ?_
    refine JL_pd rfl (det_fieldAddr rfl fo_62_1) ?_
    refine JL_guard rfl rfl h1 ?_
    refine JL_pd rfl (det_fieldAddr rfl fo_49_1) ?_
    refine JL_guard rfl rfl h1 ?_
    refine JL_dt rfl (det_loadK rfl Try.isAgg3 rfl) ?_
    refine JL_guard rfl rfl h1 ?_
    refine JL_pd rfl (det_leq rfl rfl) ?_
    refine JL_pd rfl (det_pick_t rfl h1 rfl) ?_
    refine JL_pd rfl (det_assign rfl) ?_
    refine JL_nil ?_
    refine JE_seq ?_
    refine JC_ret ?_
    refine JE_out (.inl rfl) () (results1 Try.results71 (res_tmp rfl)) ?_ (List.Perm.refl _) (fun _ _ => trivial)
    (first | (simp_all [isPocket]; done) | (simp_all [isPocket]; grind))
  · refine JL_skip rfl rfl h1 rfl ?_
    refine JL_skip rfl rfl h1 rfl ?_
    refine JL_skip rfl rfl h1 rfl ?_
    refine JL_skip rfl rfl h1 rfl ?_
    refine JL_skip rfl rfl h1 rfl ?_
    refine JL_skip rfl rfl h1 rfl ?_
    refine JL_skip rfl rfl h1 rfl ?_
    refine JL_pd rfl (det_pick_f rfl h1 rfl) ?_
    refine JL_pd rfl (det_assign rfl) ?_
    refine JL_nil ?_
    refine JE_seq ?_
    refine JC_ret ?_
    refine JE_out (.inl rfl) () (results1 Try.results71 (res_tmp rfl)) ?_ (List.Perm.refl _) (fun _ _ => trivial)
    (first | (simp_all [isPocket]; done) | (simp_all [isPocket]; grind))

/-- An aimer's cells. -/
abbrev aimCs (l : La) (p : Pk) (ha : Option Addr) (hc : Nat) (pa : Option Addr) (pc g F mb : Nat) : List Value := [I l.boards, I l.rows, .slice ha l.hooks.length hc, .slice pa l.patches.length pc, .slice (some ⟨g, 0, none⟩) l.rows.toNat l.rows.toNat, I p.boards.lo, I p.boards.hi, I p.dirs.lo, I p.dirs.hi, .func (.func F) #[] #[], .map (some mb)]
/-- Whether a ball has a truth with an end: n rows before the last one. -/
def canN (l : La) (en : Bool → St → Bool) : Nat → Int → St → Bool
  | 0, _, s => en (onL l s) s
  | n + 1, row, s => if onL l s = true then (stepsOf l row s).any (canN l en n (row + 1)) else en false s
/-- What an aimer remembers is so. -/
def GoodM (l : La) (en : Bool → St → Bool) (m : Int × St → Option Bool) : Prop := ∀ k v, m k = some v → v = canN l en (l.rows - 1 - k.1).toNat k.1 k.2
abbrev Memo (l : La) (en : Bool → St → Bool) := { m : Int × St → Option Bool // GoodM l en m }
abbrev encTl {hk : Rg} {s : St} (x : Turned hk s) : List Value := [I x.1.1, .agg #[I x.1.2.b, I x.1.2.d]]

theorem GoodM.upd {l : La} {en : Bool → St → Bool} {m : Int × St → Option Bool} (h : GoodM l en m) {row : Int} {s : St} {v : Bool} (hv : v = canN l en (l.rows - 1 - row).toNat row s) : GoodM l en (Go.Proofs.Ytcfhbnfincpehaa.upd m (row, s) v) := by
  intro k u hu
  by_cases e : k = (row, s)
  · subst e; simp [Go.Proofs.Ytcfhbnfincpehaa.upd] at hu; rw [← hu, hv]
  · simp [Go.Proofs.Ytcfhbnfincpehaa.upd, e] at hu; exact h k u hu
set_option maxRecDepth 100000 in
theorem can_j (l : La) (p : Pk) (ha pa : Option Addr) (hc pc g A F mb : Nat) (en : Bool → St → Bool) (V : Valid l) (eg : ∀ args w, (callFunc F args).run Try.prog w = .ok (.enter F args) w)
    (hE : ∀ (b : Bool) (s : St), Cv Try.prog F [.agg #[I p.boards.lo, I p.boards.hi, I p.dirs.lo, I p.dirs.hi], .bool b, .agg #[I s.b, I s.d]] KTrue (.bool (en b s))) :
    ∀ (n : Nat) (row : Int) (s : St) (m : Memo l en), row + n = l.rows - 1 → 0 ≤ row → -5 ≤ s.d → s.d ≤ 5 →
      Cx Try.prog 74 [.pointer (some ⟨A, 0, none⟩), I row, .agg #[I s.b, I s.d]] [mp mb ekSp vB m.1] (KAnd (KBox A (aimCs l p ha hc pa pc g F mb)) (KBall l ha hc pa pc g))
        (fun _ : Memo l en => .bool (canN l en n row s)) (fun m' => [mp mb ekSp vB m'.1]) (fun _ => KTrue) := by
  intro n
  induction n using Nat.strongRecOn
  rename_i n IH
  intro row s m hn h0 d1 d2
  have r1 := V.r1
  have r2 := V.r2
  refine Cx_of Try.func74 rfl Try.ntmps74 rfl fun w0 M0 => ?_
  refine JC_seq ?_
  refine JC_region ?_
  refine JL_step rfl rfl rfl (jo_box rfl rfl) fun b3 => ?_
  refine JL_step rfl rfl rfl (jo_box rfl rfl) fun b4 => ?_
  refine JL_step rfl rfl rfl (jo_box rfl rfl) fun b5 => ?_
  refine JL_pd rfl (det_assign rfl) ?_
  refine JL_nil ?_
  refine JE_seq ?_
  refine JC_seq ?_
  refine JC_seq ?_
  refine JC_draw [] (by kernel_rfl) ?_
  refine JA_dt (i := 0) rfl (by kernel_rfl) (by kernel_rfl) rfl rfl (det_loadK rfl Try.isAgg133 rfl) ?_
  refine JA_pd (i := 1) rfl (by kernel_rfl) rfl rfl (det_nilCheck rfl) ?_
  refine JA_pd (i := 2) rfl (by kernel_rfl) rfl rfl (det_fieldAddr rfl fo_159_0) ?_
  refine JA_pd (i := 3) rfl (by kernel_rfl) rfl rfl (det_fieldAddr rfl fo_107_0) ?_
  refine JA_dt (i := 4) rfl (by kernel_rfl) (by kernel_rfl) rfl rfl (det_loadKA rfl Try.isAgg37 Try.sizeOf37 rfl rfl) ?_
  refine JA_dt (i := 5) rfl (by kernel_rfl) (by kernel_rfl) rfl rfl (det_loadKA rfl Try.isAgg39 Try.sizeOf39 rfl rfl) ?_
  -- stop: op  6 t18 := (call (Call (value f65) (t16 t17) (37 39)))   <4 5>   34
  refine JA_one (i := 6) (by kernel_rfl) rfl rfl rfl (jo_callv rfl rfl Try.call65 rfl (on_j l ha pa hc pc s)) (fun _ => ⟨hsub_refl, fun _ h => h⟩) fun _ => ?_
  refine JA_pd (i := 7) rfl (by kernel_rfl) rfl rfl (det_not rfl) ?_
  refine JA_done (by kernel_rfl) ?_
  refine JE_seq ?_
  -- stop: cond
  refine JC_cond rfl (fun hon => ?_) (fun hon => ?_)
  · refine JC_seq ?_
    refine JC_draw [] (by kernel_rfl) ?_
    refine JA_dt (i := 0) rfl (by kernel_rfl) (by kernel_rfl) rfl rfl (det_loadK rfl Try.isAgg133 rfl) ?_
    refine JA_pd (i := 1) rfl (by kernel_rfl) rfl rfl (det_nilCheck rfl) ?_
    refine JA_pd (i := 2) rfl (by kernel_rfl) rfl rfl (det_fieldAddr rfl fo_159_2) ?_
    refine JA_pd (i := 3) rfl (by kernel_rfl) rfl rfl (det_fieldAddr rfl fo_156_0) ?_
    refine JA_dt (i := 4) rfl (by kernel_rfl) (by kernel_rfl) rfl rfl (det_loadK rfl Try.isAgg153 rfl) ?_
    refine JA_dt (i := 5) rfl (by kernel_rfl) (by kernel_rfl) rfl rfl (det_loadK rfl Try.isAgg133 rfl) ?_
    refine JA_pd (i := 6) rfl (by kernel_rfl) rfl rfl (det_nilCheck rfl) ?_
    refine JA_pd (i := 7) rfl (by kernel_rfl) rfl rfl (det_fieldAddr rfl fo_159_1) ?_
    refine JA_dt (i := 8) rfl (by kernel_rfl) (by kernel_rfl) rfl rfl (det_loadKA rfl Try.isAgg62 Try.sizeOf62 rfl rfl) ?_
    refine JA_dt (i := 9) rfl (by kernel_rfl) (by kernel_rfl) rfl rfl (det_loadKA rfl Try.isAgg39 Try.sizeOf39 rfl rfl) ?_
    -- stop: op 10 t30 := (call (Call (value t24) (t28 (bool false) t29) (62 4 39)))   <4 8 9>   35
    refine JA_one (i := 10) (by kernel_rfl) rfl rfl rfl (jo_callv rfl rfl eg rfl (hE false s)) (fun _ => ⟨hsub_refl, fun _ h => h⟩) fun _ => ?_
    refine JA_pd (i := 11) rfl (by kernel_rfl) rfl rfl (det_assign rfl) ?_
    refine JA_done (by kernel_rfl) ?_
    refine JE_seq ?_
    refine JC_ret ?_
    refine JE_seq_ret ?_
    -- stop: out
    refine JE_out (.inl rfl) m (results1 Try.results74 (res_tmp rfl)) (by cases n <;> simp_all [canN]) pick_perm (fun _ _ => trivial)
  · refine JC_skip ?_
    refine JE_seq ?_
    refine JC_seq ?_
    refine JC_seq ?_
    refine JC_draw [] (by kernel_rfl) ?_
    refine JA_dt (i := 0) rfl (by kernel_rfl) (by kernel_rfl) rfl rfl (det_loadK rfl Try.isAgg3 rfl) ?_
    refine JA_dt (i := 1) rfl (by kernel_rfl) (by kernel_rfl) rfl rfl (det_loadK rfl Try.isAgg133 rfl) ?_
    refine JA_pd (i := 2) rfl (by kernel_rfl) rfl rfl (det_nilCheck rfl) ?_
    refine JA_pd (i := 3) rfl (by kernel_rfl) rfl rfl (det_fieldAddr rfl fo_159_0) ?_
    refine JA_pd (i := 4) rfl (by kernel_rfl) rfl rfl (det_fieldAddr rfl fo_107_0) ?_
    refine JA_pd (i := 5) rfl (by kernel_rfl) rfl rfl (det_fieldAddr rfl fo_37_1) ?_
    refine JA_dt (i := 6) rfl (by kernel_rfl) (by kernel_rfl) rfl rfl (det_loadK rfl Try.isAgg3 rfl) ?_
    refine JA_pd (i := 7) rfl (by kernel_rfl) rfl rfl (det_sub rfl rfl ⟨by omega, by omega⟩) ?_
    refine JA_pd (i := 8) rfl (by kernel_rfl) rfl rfl (det_eql rfl rfl) ?_
    refine JA_done (by kernel_rfl) ?_
    refine JE_seq ?_
    -- stop: cond
    simp only [Bool.not_eq_false'] at hon
    -- stop: cond
    refine JC_if rfl (fun hlast => ?_) (fun hlast => ?_)
    · refine JC_seq ?_
      refine JC_draw [] (by kernel_rfl) ?_
      refine JA_dt (i := 0) rfl (by kernel_rfl) (by kernel_rfl) rfl rfl (det_loadK rfl Try.isAgg133 rfl) ?_
      refine JA_pd (i := 1) rfl (by kernel_rfl) rfl rfl (det_nilCheck rfl) ?_
      refine JA_pd (i := 2) rfl (by kernel_rfl) rfl rfl (det_fieldAddr rfl fo_159_2) ?_
      refine JA_pd (i := 3) rfl (by kernel_rfl) rfl rfl (det_fieldAddr rfl fo_156_0) ?_
      refine JA_dt (i := 4) rfl (by kernel_rfl) (by kernel_rfl) rfl rfl (det_loadK rfl Try.isAgg153 rfl) ?_
      refine JA_dt (i := 5) rfl (by kernel_rfl) (by kernel_rfl) rfl rfl (det_loadK rfl Try.isAgg133 rfl) ?_
      refine JA_pd (i := 6) rfl (by kernel_rfl) rfl rfl (det_nilCheck rfl) ?_
      refine JA_pd (i := 7) rfl (by kernel_rfl) rfl rfl (det_fieldAddr rfl fo_159_1) ?_
      refine JA_dt (i := 8) rfl (by kernel_rfl) (by kernel_rfl) rfl rfl (det_loadKA rfl Try.isAgg62 Try.sizeOf62 rfl rfl) ?_
      refine JA_dt (i := 9) rfl (by kernel_rfl) (by kernel_rfl) rfl rfl (det_loadKA rfl Try.isAgg39 Try.sizeOf39 rfl rfl) ?_
      -- stop: op 10 t50 := (call (Call (value t44) (t48 (bool true) t49) (62 4 39)))   <4 8 9>   38
      refine JA_one (i := 10) (by kernel_rfl) rfl rfl rfl (jo_callv rfl rfl eg rfl (hE true s)) (fun _ => ⟨hsub_refl, fun _ h => h⟩) fun _ => ?_
      refine JA_pd (i := 11) rfl (by kernel_rfl) rfl rfl (det_assign rfl) ?_
      refine JA_done (by kernel_rfl) ?_
      refine JE_seq ?_
      refine JC_ret ?_
      refine JE_seq_ret ?_
      -- stop: out
      obtain rfl : n = 0 := by omega
      refine JE_out (.inl rfl) m (results1 Try.results74 (res_tmp rfl)) (by simp [canN, hon]) pick_perm (fun _ _ => trivial)
    · refine JC_skip ?_
      refine JE_seq ?_
      refine JC_seq ?_
      refine JC_region ?_
      refine JL_dt rfl (det_loadK rfl Try.isAgg3 rfl) ?_
      refine JL_dt rfl (det_loadKA rfl Try.isAgg39 Try.sizeOf39 rfl rfl) ?_
      refine JL_pd rfl (det_build rfl (bld_126_0_1 _ _ _)) ?_
      refine JL_step rfl rfl rfl (jo_alloc0 Try.zeroValue126 rfl) fun b7 => ?_
      refine JL_step0 rfl rfl (jo_store rfl rfl rfl (by first | (simp only [splice_norm]; done) | (simp only [splice_norm]; rfl) | rfl) Try.sizeOf126 rfl rfl) fun _ => ?_
      refine JL_nil ?_
      refine JE_seq ?_
      refine JC_seq ?_
      refine JC_draw [10] (by kernel_rfl) ?_
      refine JA_dt (i := 0) rfl (by kernel_rfl) (by kernel_rfl) rfl rfl (det_loadK rfl Try.isAgg133 rfl) ?_
      refine JA_pd (i := 1) rfl (by kernel_rfl) rfl rfl (det_nilCheck rfl) ?_
      refine JA_pd (i := 2) rfl (by kernel_rfl) rfl rfl (det_fieldAddr rfl fo_159_3) ?_
      refine JA_dt (i := 3) rfl (by kernel_rfl) (by kernel_rfl) rfl rfl (det_loadK rfl Try.isAgg157 rfl) ?_
      refine JA_dt (i := 4) rfl (by kernel_rfl) (by kernel_rfl) rfl rfl (det_loadKA rfl Try.isAgg126 Try.sizeOf126 rfl rfl) ?_
      -- stop: op  5 t60 := (lookup 157 t58 t59 true)   <3 4>   41
      obtain ⟨n, rfl⟩ : ∃ k, n = k + 1 := ⟨n - 1, by omega⟩
      have hrw : (l.rows - 1 - row).toNat = n + 1 := by omega
      rcases hmk : m.1 (row, s) with _ | v
      · skip
        refine JA_dt (i := 5) rfl (by kernel_rfl) (by kernel_rfl) rfl rfl (det_lookup2N hmk rfl rfl goodSp Try.underlying157 Try.zeroValue4) ?_
        refine JA_pd (i := 6) rfl (by kernel_rfl) rfl rfl (det_move rfl) ?_
        refine JA_pd (i := 7) rfl (by kernel_rfl) rfl rfl (det_extract rfl rfl) ?_
        refine JA_pd (i := 8) rfl (by kernel_rfl) rfl rfl (det_extract rfl rfl) ?_
        refine JA_one (i := 9) (by kernel_rfl) rfl rfl rfl (jo_alloc0 Try.zeroValue4 rfl) (fun _ => ⟨hsub_drop 1 rfl, fun _ h => h⟩) fun b8 => ?_
        refine JA_tail (i := 10) (by kernel_rfl) rfl rfl rfl rfl rfl (jo_store rfl rfl rfl (by first | (simp only [splice_norm]; done) | (simp only [splice_norm]; rfl) | rfl) Try.sizeOf4 rfl rfl) fun _ => ?_
        refine JT_pd (i := 11) rfl (by kernel_rfl) rfl rfl (det_assign rfl) ?_
        refine JT_done (by kernel_rfl) ?_
        refine JE_seq ?_
        refine JC_seq ?_
        refine JC_seq ?_
        refine JC_region ?_
        refine JL_pd rfl (det_move rfl) ?_
        refine JL_nil ?_
        refine JE_seq ?_
        -- stop: cond
        refine JC_cond rfl (fun hno => ?_) (fun hno => ?_)
        · refine JC_seq ?_
          refine JC_region ?_
          refine JL_dt rfl (det_loadK rfl Try.isAgg4 rfl) ?_
          refine JL_pd rfl (det_assign rfl) ?_
          refine JL_nil ?_
          refine JE_seq ?_
          refine JC_ret ?_
          refine JE_seq_ret ?_
          -- stop: out
          cases hno
        · refine JC_skip ?_
          refine JE_seq ?_
          refine JC_seq ?_
          refine JC_seq ?_
          refine JC_draw [] (by kernel_rfl) ?_
          refine JA_dt (i := 0) rfl (by kernel_rfl) (by kernel_rfl) rfl rfl (det_loadK rfl Try.isAgg133 rfl) ?_
          refine JA_pd (i := 1) rfl (by kernel_rfl) rfl rfl (det_nilCheck rfl) ?_
          refine JA_pd (i := 2) rfl (by kernel_rfl) rfl rfl (det_fieldAddr rfl fo_159_0) ?_
          refine JA_dt (i := 3) rfl (by kernel_rfl) (by kernel_rfl) rfl rfl (det_loadKA rfl Try.isAgg107 Try.sizeOf107 rfl rfl) ?_
          refine JA_dt (i := 4) rfl (by kernel_rfl) (by kernel_rfl) rfl rfl (det_loadK rfl Try.isAgg3 rfl) ?_
          refine JA_dt (i := 5) rfl (by kernel_rfl) (by kernel_rfl) rfl rfl (det_loadKA rfl Try.isAgg39 Try.sizeOf39 rfl rfl) ?_
          -- stop: op  6 t71 := (call (Call (value f66) (t68 t69 t70) (107 3 39)))   <3 4 5>   45
          clear hno
          refine JA_one (i := 6) (by kernel_rfl) rfl rfl rfl (jo_callx rfl rfl Try.call66 rfl (follow_j l row s ha pa hc pc g h0 (by omega) hon) ((List.Perm.refl _))) (fun _ => ⟨hsub_drop 2 rfl, fun _ h => h.2⟩) fun ⟨hb, sb⟩ => ?_
          refine JA_done (by kernel_rfl) ?_
          refine JE_seq ?_
          refine JC_block ?_
          -- stop: rangeFunc
          have Hhk := hookOf_bd V row s.b
          have hlb : 1 ≤ s.b ∧ s.b ≤ l.boards := by simpa [onL] using hon
          have hb2 := V.b2
          refine JC_range (γ := Memo l en × Bool) (β := Nat) rfl rfl rfl rfl enter_follow (perm2 (mp mb ekSp vB m.1) (bx b8 [.bool false])) (encTl (hk := hookOf l row s.b) (s := s))
            (fun xs => xs.map (fun x => x.1.1) = turnsOf (hookOf l row s.b)) (fun pre => ∃ k, k ≤ (turnsOf (hookOf l row s.b)).length ∧ pre.map (fun x => x.1.1) = (turnsOf (hookOf l row s.b)).take k) (turnsOf (hookOf l row s.b)).length [hb, sb]
            (fun w hD _ => follow_stops (hookOf l row s.b) s hb sb w Hhk.1 Hhk.2.2 d1 d2 (by omega) (by omega) (BoxK.know (R := saysAll _) (b := hb) w hD) (BoxK.know (R := saysAll _) (b := sb) w hD)) ?_ (fun _ => rfl) ?_
            (fun pre g => g.2 = false ∧ ∀ x ∈ pre, canN l en n (row + 1) x.1.2 = false) (fun cd pre g => cd = .exit 0 ∧ g.2 = true ∧ ∃ x ∈ pre, canN l en n (row + 1) x.1.2 = true)
            (fun g => [mp mb ekSp vB g.1.1, bx b8 [.bool g.2]]) (m, false) ?_ rfl ?_ ?_ (fun x t => [(11, pt t), (3, pt b3), (4, pt b4), (8, pt b8)]) (fun x t => [bx t [I x.1.2.b, I x.1.2.d]]) ?_ ?_ ?_ ?_ ?_
          · intro b hb'; simp only [List.mem_cons, List.not_mem_nil, or_false] at hb'; rcases hb' with rfl | rfl
            · exact ⟨bx b [I (hookOf l row s.b).lo, I (hookOf l row s.b).hi], by simp, rfl⟩
            · exact ⟨bx b [I s.b, I s.d], by simp, rfl⟩
          · show ∀ p ∈ [72, 73], p < 86
            decide
          · exact ⟨rfl, by simp⟩
          · rintro pre g _ c hc b hb
            simp only [List.mem_cons, List.not_mem_nil, or_false] at hc
            rcases hc with rfl | rfl
            · exact ⟨mp mb ekSp vB m.1, by simp, hb⟩
            · exact ⟨bx b8 [.bool false], by simp, hb⟩
          · rintro cd pre g _ c hc
            refine .inr fun b hb => ?_
            simp only [List.mem_cons, List.not_mem_nil, or_false] at hc
            rcases hc with rfl | rfl
            · exact ⟨mp mb ekSp vB m.1, by simp, hb⟩
            · exact ⟨bx b8 [.bool false], by simp, hb⟩
          · intro x t c hc; simp only [List.mem_cons, List.not_mem_nil, or_false] at hc; subst hc; exact bx_cellish _ _
          · intro l' x W K0 hK0
            refine JC_region ?_
            refine JL_step rfl rfl rfl (jo_alloc0 Try.zeroValue39 rfl) fun b11 => ?_
            refine JL_step0 rfl rfl (jo_store rfl rfl rfl (by first | (simp only [splice_norm]; done) | (simp only [splice_norm]; rfl) | rfl) Try.sizeOf39 rfl rfl) fun _ => ?_
            refine JL_nil ?_
            -- stop: end
            exact JE_asg (hK0 b11) (stsub_cons rfl (stsub_cons rfl (stsub_cons rfl (stsub_cons rfl stsub_nil)))) (hsub_cons hsub_nil) (fun _ h => trivial)
          · rintro l' pre x ⟨m1, is⟩ t W K1 QX ⟨hi1, hno⟩ hlen hK hX
            obtain rfl : is = false := hi1
            refine JC_block ?_
            refine JC_seq ?_
            refine JC_region ?_
            refine JL_dt rfl (det_loadK rfl Try.isAgg133 rfl) ?_
            refine JL_dt rfl (det_loadK rfl Try.isAgg3 rfl) ?_
            refine JL_pd rfl (det_add rfl rfl ⟨by omega, by omega⟩) ?_
            refine JL_dt rfl (det_loadKA rfl Try.isAgg39 Try.sizeOf39 rfl rfl) ?_
            -- stop: op  4 t78 := (call (Call (value f74) (t74 t76 t77) (133 3 39)))   <0 2 3>   46
            refine JL_step rfl rfl rfl (jo_callx rfl rfl Try.call74 rfl (IH n (by omega) (row + 1) x.1.2 m1 (by omega) (by omega) (by rw [x.2.2.2]; exact (nextS_d _ _).1) (by rw [x.2.2.2]; exact (nextS_d _ _).2)) (pick_perm)) fun m2 => ?_
            refine JL_nil ?_
            refine JE_seq ?_
            -- stop: cond
            refine JC_cond rfl (fun hcan => ?_) (fun hcan => ?_)
            · refine JC_seq ?_
              refine JC_region ?_
              refine JL_step0 rfl rfl (jo_store rfl rfl rfl (by first | (simp only [splice_norm]; done) | (simp only [splice_norm]; rfl) | rfl) Try.sizeOf4 rfl rfl) fun _ => ?_
              refine JL_nil ?_
              refine JE_seq ?_
              refine JC_exit ?_
              refine JE_block_on rfl ?_
              refine JE_then_exit ?_
              -- stop: out
              refine JE_leave (fun st' R' a' W' => hX (.exit 0) (.exit 0) (m2, true) rfl ⟨rfl, rfl, x, by simp, hcan⟩ st' R' a' W') (hsub_cons (hsub_cons hsub_nil))
            · refine JC_skip ?_
              refine JE_block ?_
              -- stop: end
              refine JE_next (fun st' R' a' W' => hK (m2, false) ⟨rfl, fun y hy => ?_⟩ st' R' a' W') (hsub_cons (hsub_cons hsub_nil))
              rcases List.mem_append.1 hy with hy | hy
              · exact hno y hy
              · rw [List.mem_singleton.1 hy]; exact hcan
          · rintro xs ⟨m1, is⟩ hS ⟨hi1, hno⟩
            obtain rfl : is = false := hi1
            have hres : canN l en (n + 1) row s = false := by
              have : (stepsOf l row s).any (canN l en n (row + 1)) = false := by
                rw [List.any_eq_false]
                intro t ht
                cases hc : canN l en n (row + 1) t
                · simp
                · obtain ⟨x, hx, h⟩ := (seen_iff hS (fun u => canN l en n (row + 1) u = true)).2 ⟨t, ht, hc⟩
                  rw [hno x hx] at h; cases h
              simp [canN, hon, this]
            refine JE_block ?_
            refine JE_seq ?_
            refine JC_seq ?_
            refine JC_draw [6] (by kernel_rfl) ?_
            refine JA_dt (i := 0) rfl (by kernel_rfl) (by kernel_rfl) rfl rfl (det_loadK rfl Try.isAgg133 rfl) ?_
            refine JA_pd (i := 1) rfl (by kernel_rfl) rfl rfl (det_nilCheck rfl) ?_
            refine JA_pd (i := 2) rfl (by kernel_rfl) rfl rfl (det_fieldAddr rfl fo_159_3) ?_
            refine JA_dt (i := 3) rfl (by kernel_rfl) (by kernel_rfl) rfl rfl (det_loadK rfl Try.isAgg157 rfl) ?_
            refine JA_dt (i := 4) rfl (by kernel_rfl) (by kernel_rfl) rfl rfl (det_loadKA rfl Try.isAgg126 Try.sizeOf126 rfl rfl) ?_
            refine JA_dt (i := 5) rfl (by kernel_rfl) (by kernel_rfl) rfl rfl (det_loadK rfl Try.isAgg4 rfl) ?_
            -- stop: op  6 _ := (mapUpdate 157 t82 t83 t84)   <3 4 5>   51
            refine JA_tail (i := 6) (by kernel_rfl) rfl rfl rfl rfl rfl (jo_mapUpdate (row, s) false (.inl rfl) rfl rfl rfl goodSp Try.underlying157) fun _ => ?_
            refine JT_done (by kernel_rfl) ?_
            refine JE_seq ?_
            refine JC_seq ?_
            refine JC_region ?_
            refine JL_dt rfl (det_loadK rfl Try.isAgg4 rfl) ?_
            refine JL_pd rfl (det_assign rfl) ?_
            refine JL_nil ?_
            refine JE_seq ?_
            refine JC_ret ?_
            -- stop: out
            refine JE_out (.inl rfl) ⟨upd m1.1 (row, s) false, m1.2.upd (by rw [hrw, hres])⟩ (results1 Try.results74 (res_tmp rfl)) (by rw [hres]) pick_perm (fun _ _ => trivial)
          · rintro cd pre ⟨m1, is⟩ hS ⟨rfl, hi1, x, hx, hcan⟩
            obtain rfl : is = true := hi1
            have hres : canN l en (n + 1) row s = true := by
              have : (stepsOf l row s).any (canN l en n (row + 1)) = true := by
                rw [List.any_eq_true]
                refine ⟨x.1.2, ?_, hcan⟩
                rw [x.2.2.2]
                exact List.mem_map.2 ⟨x.1.1, mem_turnsOf.2 ⟨x.2.1, x.2.2.1⟩, rfl⟩
              simp [canN, hon, this]
            refine JC_exit ?_
            refine JE_block_here ?_
            refine JE_seq ?_
            refine JC_seq ?_
            refine JC_draw [6] (by kernel_rfl) ?_
            refine JA_dt (i := 0) rfl (by kernel_rfl) (by kernel_rfl) rfl rfl (det_loadK rfl Try.isAgg133 rfl) ?_
            refine JA_pd (i := 1) rfl (by kernel_rfl) rfl rfl (det_nilCheck rfl) ?_
            refine JA_pd (i := 2) rfl (by kernel_rfl) rfl rfl (det_fieldAddr rfl fo_159_3) ?_
            refine JA_dt (i := 3) rfl (by kernel_rfl) (by kernel_rfl) rfl rfl (det_loadK rfl Try.isAgg157 rfl) ?_
            refine JA_dt (i := 4) rfl (by kernel_rfl) (by kernel_rfl) rfl rfl (det_loadKA rfl Try.isAgg126 Try.sizeOf126 rfl rfl) ?_
            refine JA_dt (i := 5) rfl (by kernel_rfl) (by kernel_rfl) rfl rfl (det_loadK rfl Try.isAgg4 rfl) ?_
            -- stop: op  6 _ := (mapUpdate 157 t82 t83 t84)   <3 4 5>   51
            refine JA_tail (i := 6) (by kernel_rfl) rfl rfl rfl rfl rfl (jo_mapUpdate (row, s) true (.inl rfl) rfl rfl rfl goodSp Try.underlying157) fun _ => ?_
            refine JT_done (by kernel_rfl) ?_
            refine JE_seq ?_
            refine JC_seq ?_
            refine JC_region ?_
            refine JL_dt rfl (det_loadK rfl Try.isAgg4 rfl) ?_
            refine JL_pd rfl (det_assign rfl) ?_
            refine JL_nil ?_
            refine JE_seq ?_
            refine JC_ret ?_
            -- stop: out
            refine JE_out (.inl rfl) ⟨upd m1.1 (row, s) true, m1.2.upd (by rw [hrw, hres])⟩ (results1 Try.results74 (res_tmp rfl)) (by rw [hres]) pick_perm (fun _ _ => trivial)
      · skip
        refine JA_dt (i := 5) rfl (by kernel_rfl) (by kernel_rfl) rfl rfl (det_lookup2S hmk rfl rfl goodSp Try.underlying157 Try.zeroValue4) ?_
        refine JA_pd (i := 6) rfl (by kernel_rfl) rfl rfl (det_move rfl) ?_
        refine JA_pd (i := 7) rfl (by kernel_rfl) rfl rfl (det_extract rfl rfl) ?_
        refine JA_pd (i := 8) rfl (by kernel_rfl) rfl rfl (det_extract rfl rfl) ?_
        refine JA_one (i := 9) (by kernel_rfl) rfl rfl rfl (jo_alloc0 Try.zeroValue4 rfl) (fun _ => ⟨hsub_drop 1 rfl, fun _ h => h⟩) fun b8 => ?_
        refine JA_tail (i := 10) (by kernel_rfl) rfl rfl rfl rfl rfl (jo_store rfl rfl rfl (by first | (simp only [splice_norm]; done) | (simp only [splice_norm]; rfl) | rfl) Try.sizeOf4 rfl rfl) fun _ => ?_
        refine JT_pd (i := 11) rfl (by kernel_rfl) rfl rfl (det_assign rfl) ?_
        refine JT_done (by kernel_rfl) ?_
        refine JE_seq ?_
        refine JC_seq ?_
        refine JC_seq ?_
        refine JC_region ?_
        refine JL_pd rfl (det_move rfl) ?_
        refine JL_nil ?_
        refine JE_seq ?_
        -- stop: cond
        refine JC_cond rfl (fun hno => ?_) (fun hno => ?_)
        · refine JC_seq ?_
          refine JC_region ?_
          refine JL_dt rfl (det_loadK rfl Try.isAgg4 rfl) ?_
          refine JL_pd rfl (det_assign rfl) ?_
          refine JL_nil ?_
          refine JE_seq ?_
          refine JC_ret ?_
          refine JE_seq_ret ?_
          -- stop: out
          refine JE_out (.inl rfl) m (results1 Try.results74 (res_tmp rfl)) (by rw [m.2 _ _ hmk]; rw [show (l.rows - 1 - (row, s).1).toNat = n + 1 from by show (l.rows - 1 - row).toNat = _; omega]) pick_perm (fun _ _ => trivial)
        · refine JC_skip ?_
          refine JE_seq ?_
          refine JC_seq ?_
          refine JC_seq ?_
          refine JC_draw [] (by kernel_rfl) ?_
          refine JA_dt (i := 0) rfl (by kernel_rfl) (by kernel_rfl) rfl rfl (det_loadK rfl Try.isAgg133 rfl) ?_
          refine JA_pd (i := 1) rfl (by kernel_rfl) rfl rfl (det_nilCheck rfl) ?_
          refine JA_pd (i := 2) rfl (by kernel_rfl) rfl rfl (det_fieldAddr rfl fo_159_0) ?_
          refine JA_dt (i := 3) rfl (by kernel_rfl) (by kernel_rfl) rfl rfl (det_loadKA rfl Try.isAgg107 Try.sizeOf107 rfl rfl) ?_
          refine JA_dt (i := 4) rfl (by kernel_rfl) (by kernel_rfl) rfl rfl (det_loadK rfl Try.isAgg3 rfl) ?_
          refine JA_dt (i := 5) rfl (by kernel_rfl) (by kernel_rfl) rfl rfl (det_loadKA rfl Try.isAgg39 Try.sizeOf39 rfl rfl) ?_
          -- stop: op  6 t71 := (call (Call (value f66) (t68 t69 t70) (107 3 39)))   <3 4 5>   45
          cases hno
end Go.Proofs.Ytcfhbnfincpehaa
