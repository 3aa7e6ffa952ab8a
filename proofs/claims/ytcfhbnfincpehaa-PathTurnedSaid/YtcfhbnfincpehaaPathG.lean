/- The walk of package path: reached. -/
import Derived.Test.YtcfhbnfincpehaaSpecR
import Derived.Test.YtcfhbnfincpehaaKitS
import Derived.Deep.LoopGhost
namespace Go.Proofs.Ytcfhbnfincpehaa
open Go.RowKit Go.Shelf
attribute [local go_sem] Oper.semAt_some

theorem zeroBool (w : World) : (zeroValue 4).run Try.prog w = .ok (.bool false) w := by kernel_rfl
theorem enter_follow (args : Array Value) (w : World) : (callFunc 88 args).run Try.prog w = .ok (.enter 88 args) w := by kernel_rfl
theorem elemSets : ElemOf Try.prog 110 114 1 8 := .mk' (z := .map none) Try.underlying110 (by kernel_rfl) rfl (by decide) (by decide)

theorem seen_iff {l : La} {k : Int} {s : St} {xs : List (Turned (hookOf l k s.b) s)} (h : xs.map (fun x => x.1.1) = turnsOf (hookOf l k s.b)) (A : St → Prop) : (∃ x ∈ xs, A x.1.2) ↔ ∃ t ∈ stepsOf l k s, A t := by
  constructor
  · rintro ⟨x, hx, ha⟩
    refine ⟨x.1.2, List.mem_map.2 ⟨x.1.1, ?_, x.2.2.2.symm⟩, ha⟩
    rw [← h]; exact List.mem_map.2 ⟨x, hx, rfl⟩
  · rintro ⟨t, ht, ha⟩
    obtain ⟨u, hu, rfl⟩ := List.mem_map.1 ht
    rw [← h] at hu
    obtain ⟨x, hx, rfl⟩ := List.mem_map.1 hu
    exact ⟨x, hx, by rw [x.2.2.2]; exact ha⟩
/-- What holds ahead of a round. -/
structure RInv (w W : World) (l : La) (s0 : St) (ha : Option Addr) (hc : Nat) (pa : Option Addr) (pc g k g4 cap4 : Nat) (ms : List Nat) (γ : Int) : Prop where
  b : Box W w.heap.size [I l.boards, I l.rows, .slice ha l.hooks.length hc, .slice pa l.patches.length pc, .slice (some ⟨g, 0, none⟩) l.rows.toNat l.rows.toNat]
  s : Box W (w.heap.size + 1) [I s0.b, I s0.d]
  γb : Box W (w.heap.size + 1 + 1) [I γ]
  len : ms.length = k + 1
  row : Row W (w.heap.size + 3) 114 1 g4 (k + 1) cap4 (ms.map fun b => .map (some b))
  sets : ∀ (j : Nat) (h : j < ms.length), w.heap.size ≤ ms[j] ∧ SetIs W ms[j] (Rch l s0 j)
  gut : GutIs l.rows (fun j => j < k ∧ Gut l s0 j) γ
  below : Below w.heap.size w W

/-- What holds ahead of a round of the inner loop. -/
structure SInv (w1 W : World) (l : La) (s0 : St) (m : St → Option Unit) (gb nb bm r k : Nat) (ls : List St) (γ : Int) : Prop where
  walk : WalkIs W bm r ekSt (fun _ : Unit => .bool true) m ls
  next : SetIs W nb (fun t => onL l t = true ∧ ∃ s, (Rch l s0 k s ∧ s ∉ ls) ∧ t ∈ stepsOf l k s)
  γb : Box W gb [I γ]
  gut : GutIs l.rows (fun j => (j < k ∧ Gut l s0 j) ∨ (j = k ∧ ∃ s, (Rch l s0 k s ∧ s ∉ ls) ∧ ∃ t ∈ stepsOf l k s, onL l t = false)) γ
  mv : Moves (fun b => b = gb ∨ b = nb ∨ b = r) w1 W
  sub : ∀ s, s ∈ ls → Rch l s0 k s

/-- What holds ahead of a round of the innermost loop. -/
def IInv (l : La) (s0 : St) (gb nb k : Nat) (ls : List St) {hk : Rg} {s : St} (pre : List (Turned hk s)) (W : World) : Prop := ∃ γ : Int,
  SetIs W nb (fun t => (onL l t = true ∧ ∃ s, (Rch l s0 k s ∧ s ∉ ls) ∧ t ∈ stepsOf l k s) ∨ (onL l t = true ∧ ∃ x ∈ pre, x.1.2 = t)) ∧ Box W gb [I γ] ∧
  GutIs l.rows (fun j => ((j < k ∧ Gut l s0 j) ∨ (j = k ∧ ∃ s, (Rch l s0 k s ∧ s ∉ ls) ∧ ∃ t ∈ stepsOf l k s, onL l t = false)) ∨ (j = k ∧ ∃ x ∈ pre, onL l x.1.2 = false)) γ
theorem IInv.own (l : La) (s0 : St) (gb nb k B : Nat) (ls : List St) {hk : Rg} {s : St} (hn : nb < B) : OwnFrom B (IInv l s0 gb nb k ls (hk := hk) (s := s)) := by
  rintro pre W W' row ⟨γ, h1, h2, h3⟩ hg hr
  exact ⟨γ, h1.own hg hr hn, own_box (β := Unit) () W W' row h2 hg hr, h3⟩

set_option maxRecDepth 100000 in
set_option maxHeartbeats 1000000 in
theorem reached_any (l : La) (s0 : St) (ha pa : Option Addr) (hc pc g : Nat) (w : World) (H : BallAt w l ha hc pa pc g) (h0 : isStart l s0 = true) :
    Calls Try.prog 58 #[.agg #[I l.boards, I l.rows, .slice ha l.hooks.length hc, .slice pa l.patches.length pc, .slice (some ⟨g, 0, none⟩) l.rows.toNat l.rows.toNat], .agg #[I s0.b, I s0.d]] w fun e w' => ∃ (A cap : Nat) (ms : List Nat) (γ : Int), e = .returned (.tuple #[.slice (some ⟨A, 0, none⟩) l.rows.toNat cap, I γ]) ∧ ReachedAt w w' l s0 A cap ms γ := by
  have hmm := @run_makeMap Try.prog
  have V := H.valid
  have r1 := V.r1
  have r2 := V.r2
  refine calls_of_wpC Try.func58 rfl w.heap.size ?_
  simp only [Try.ntmps58, List.size_toArray, List.length_cons, List.length_nil, Nat.reduceAdd, Nat.reduceSub, Array.replicate_succ, Array.replicate_zero, List.push_toArray, List.append_toArray, List.nil_append, List.cons_append]
  go_wp2_with (first
    | (((with_reducible show wpList _ _ _ (⟨_, Op.insert _ _ _ _, _, _, _, _⟩ :: _) _ _); (refine wpList_insertM rfl _ _ _ 114 rfl _ _ rfl goodSt _ rfl (MapIs.made' (ν := Unit) ekSt (fun _ => .bool true) (by simp)) (s0) rfl (()) rfl ?_); intro w1 hMw1 hvw1 hzw1)
       have xb : Box w1 w.heap.size [I l.boards, I l.rows, .slice ha l.hooks.length hc, .slice pa l.patches.length pc, .slice (some ⟨g, 0, none⟩) l.rows.toNat l.rows.toNat] := hvw1.box ((((Box.new w _ _).alloc _).alloc _).alloc _) (by omega)
       have xs : Box w1 (w.heap.size + 1) [I s0.b, I s0.d] := hvw1.box (((Box.new' _ _ (by simp)).alloc _).alloc _) (by omega)
       have xg : Box w1 (w.heap.size + 1 + 1) [I 0] := hvw1.box ((Box.new' _ _ (by simp)).alloc _) (by omega)
       have hs1 : w1.heap.size = w.heap.size + 1 + 1 + 1 + 1 := by rw [hzw1]; simp)
    | ((at_builtin; (refine wpList_appendR rfl _ _ 110 rfl _ _ _ elemSets (w.heap.size + 3) (.slice none 0 0) (0) ([]) rfl (World.ownsRow_nil _ _ _ _) _ _ ([.map (some (w.heap.size + 1 + 1 + 1))]) rfl rfl (Box.new' _ _ hs1.symm) (by simp [Value.oneCell']) (by omega) (by first | omega | (simp only [World.size_alloc]; omega) | (simp; done)) ?_); intro g4 cap4 w2 hR hv2 hd2 hz2)
       simp only [World.size_alloc, Value.ownBlock, reduceCtorEq, false_or] at hd2 hz2
       have ub : Box w2 w.heap.size [I l.boards, I l.rows, .slice ha l.hooks.length hc, .slice pa l.patches.length pc, .slice (some ⟨g, 0, none⟩) l.rows.toNat l.rows.toNat] := hv2.box (xb.alloc _) (by simp [Value.ownBlock])
       have us : Box w2 (w.heap.size + 1) [I s0.b, I s0.d] := hv2.box (xs.alloc _) (by simp [Value.ownBlock])
       have ug : Box w2 (w.heap.size + 1 + 1) [I 0] := hv2.box (xg.alloc _) (by simp [Value.ownBlock])
       have yb := fun i c h => ub.cell i (c := c) h
       have yb1 := yb 1 _ rfl
       have yg := ug.cell 0 rfl
       have yf := ug.free 0
       clear yb))
  clear yb1 yg yf
  refine wp_loop_ghost_k (fun n a' w' => ∃ (k : Nat) (γ : Int) (ms : List Nat) (g4 cap4 : Nat), ∃ (Ds : List Nat), ∃ u1 u6 u7 u8 u9 u10 u11 u12 u13 u14 u15 u16 u17 u18 u19 u20 u21 u22 u25 u26 u27 u28 u29 u30 u31 u32 u33 u34 u35 u36 u37 u38 u39 u40 u41 u42 u43 u44 u45 u46 u47 u48 u49 u50 u51 u52 u53 u54 u55 u56 u57 u58 u59 u60, (n + k + 1 = l.rows.toNat ∧ RInv w w' l s0 ha hc pa pc g k g4 cap4 ms γ) ∧ MarksIn w.heap.size w' Ds ∧ a' = ⟨#[.agg #[I l.boards, I l.rows, .slice ha l.hooks.length hc, .slice pa l.patches.length pc, .slice (some ⟨g, 0, none⟩) l.rows.toNat l.rows.toNat], u1, .pointer (some ⟨w.heap.size, 0, none⟩), .pointer (some ⟨w.heap.size + 1, 0, none⟩), .slice (some ⟨g4, 0, none⟩) (k + 1) cap4, .pointer (some ⟨w.heap.size + 1 + 1, 0, none⟩), u6, u7, u8, u9, u10, u11, u12, u13, u14, u15, u16, u17, u18, u19, u20, u21, u22, I (l.rows - 1), I k, u25, u26, u27, u28, u29, u30, u31, u32, u33, u34, u35, u36, u37, u38, u39, u40, u41, u42, u43, u44, u45, u46, u47, u48, u49, u50, u51, u52, u53, u54, u55, u56, u57, u58, u59, u60], Ds.map Mark⟩) (l.rows.toNat - 1) ?start ?round
  case start =>
    refine ⟨0, l.rows, [w.heap.size + 3], g4, cap4, [], ?_⟩
    (repeat apply Exists.intro)
    refine ⟨⟨by omega, ?_⟩, .nil _ _, rfl⟩
    have hset : SetIs w1 (w.heap.size + 1 + 1 + 1) (Rch l s0 0) := ⟨_, hMw1, fun t => by by_cases e : t = s0 <;> simp [upd, e, Rch]⟩
    have hne : ¬ (w.heap.size + 1 + 1 + 1 = w.heap.size + 1 + 1) := by omega
    have hb1 : Below w.heap.size w w1 := Below.trans (by (repeat (first | assumption | exact Below.refl _ _ | refine Below.alloc ?_ (by first | omega | (simp only [World.size_alloc]; omega) | (simp; done) | (simp; omega)) _ | refine Below.setCell ?_ (by first | omega | (simp only [World.size_alloc]; omega) | (simp; done) | (simp; omega)) _))) (hvw1.below (by simp; omega) (fun i hi => by omega))
    have hb2 : Below w.heap.size w w2 := hb1.trans ((hv2.below (B := w1.heap.size) (by simp) (fun i hi => by simp [Value.ownBlock])).mono (by omega) |> fun h => ((Below.refl _ w1).alloc (by omega) _).trans h)
    refine ⟨ub.other (by show w.heap.size + 1 + 1 ≠ w.heap.size; omega) _, us.other (by show w.heap.size + 1 + 1 ≠ w.heap.size + 1; omega) _, ug.set 0 _, rfl, ?_, ?_, (GutIs.start (by omega)).congr (by simp), hb2.setCell (p := ⟨w.heap.size + 1 + 1, 0, none⟩) (by show w.heap.size ≤ w.heap.size + 1 + 1; omega) _⟩
    · exact hR.at_ (Below.heap_setCell w2 ⟨w.heap.size + 1 + 1, 0, none⟩ _ g4 (by have := hR.ge; show g4 ≠ w.heap.size + 1 + 1; omega))
    · intro j hj
      have : j = 0 := by simpa using hj
      subst this
      exact ⟨by show w.heap.size ≤ w.heap.size + 3; omega, ((hset.alloc _).moves hv2 (by simp [Value.ownBlock])).set hne⟩
  rintro n a1 wr ⟨k, γ, ms, g4, cap4, hI⟩ J K hJ hK
  have HJ := Lib.hid hJ
  clear hJ
  revert hI; refine ex_arrow fun Ds => ex_arrow fun u1 => ex_arrow fun u6 => ex_arrow fun u7 => ex_arrow fun u8 => ex_arrow fun u9 => ex_arrow fun u10 => ex_arrow fun u11 => ex_arrow fun u12 => ex_arrow fun u13 => ex_arrow fun u14 => ex_arrow fun u15 => ex_arrow fun u16 => ex_arrow fun u17 => ex_arrow fun u18 => ex_arrow fun u19 => ex_arrow fun u20 => ex_arrow fun u21 => ex_arrow fun u22 => ex_arrow fun u25 => ex_arrow fun u26 => ex_arrow fun u27 => ex_arrow fun u28 => ex_arrow fun u29 => ex_arrow fun u30 => ex_arrow fun u31 => ex_arrow fun u32 => ex_arrow fun u33 => ex_arrow fun u34 => ex_arrow fun u35 => ex_arrow fun u36 => ex_arrow fun u37 => ex_arrow fun u38 => ex_arrow fun u39 => ex_arrow fun u40 => ex_arrow fun u41 => ex_arrow fun u42 => ex_arrow fun u43 => ex_arrow fun u44 => ex_arrow fun u45 => ex_arrow fun u46 => ex_arrow fun u47 => ex_arrow fun u48 => ex_arrow fun u49 => ex_arrow fun u50 => ex_arrow fun u51 => ex_arrow fun u52 => ex_arrow fun u53 => ex_arrow fun u54 => ex_arrow fun u55 => ex_arrow fun u56 => ex_arrow fun u57 => ex_arrow fun u58 => ex_arrow fun u59 => ex_arrow fun u60 => ?_; rintro ⟨⟨hn, R⟩, hDs, rfl⟩
  have hk0 : k < ms.length := by rw [R.len]; omega
  have yr : wr.cell? ⟨g4, k, none⟩ = some (.map (some ms[k])) := R.row.cell k (by simp)
  by_cases hlt : (k : Int) < l.rows - 1
  · obtain ⟨bm, hbm⟩ : ∃ bm, ms[k] = bm := ⟨_, rfl⟩
    rw [hbm] at yr
    obtain ⟨sz, m, hm, hmP⟩ := R.sets k hk0
    rw [hbm] at sz hm
    have o1 := R.row.lt
    have o2 : g4 < wr.heap.size + 1 := by omega
    have o3 : g4 < wr.heap.size + 1 + 1 := by omega
    have o4 : bm < wr.heap.size := hm.lt
    have o5 := R.b.lt
    have o6 := R.s.lt
    have o7 := R.γb.lt
    have o8 := R.row.ge
    have RR := Lib.hid R
    have HmP := Lib.hid hmP
    have HD := Lib.hid hDs
    clear R hmP hDs
    go_wp2_with (
       ((with_reducible show wpList _ _ _ (⟨_, Op.range _ _, _, _, _, _⟩ :: _) _ _); (refine wpList_rangeM rfl _ 114 rfl _ _ rfl goodSt.inj _ rfl (((hm.alloc _).alloc _).alloc _) ?_); intro ls w1 hW hN hls hbw1 hz1)
       simp only [World.size_alloc] at hW hz1
       have c6 : Box w1 wr.heap.size [I k] := (((Box.new wr _ _).alloc _).alloc _).later hbw1
       have cN : SetIs w1 (wr.heap.size + 1) (fun _ => False) := ⟨fun _ => none, (((MapIs.made' (ν := Unit) ekSt (fun _ => .bool true) (by simp)).alloc _).later hbw1), by simp⟩
       have c7 : Box w1 (wr.heap.size + 1 + 1) [.map (some (wr.heap.size + 1))] := (Box.new' _ _ (by simp)).later hbw1
       have hbW : Below wr.heap.size wr w1 := Below.trans (by (repeat (first | assumption | exact Below.refl _ _ | refine Below.alloc ?_ (by first | omega | (simp only [World.size_alloc]; omega) | (simp; done) | (simp; omega)) _ | refine Below.setCell ?_ (by first | omega | (simp only [World.size_alloc]; omega) | (simp; done) | (simp; omega)) _))) (hbw1.mono (by simp; omega))
       have HN := Lib.hid hN
       have Hls := Lib.hid hls
       have Hz1 := Lib.hid hz1
       clear hN hls hz1)
    refine wp_loop_ghost_k (fun n a' w' => ∃ (ls : List St) (γ : Int), ∃ (Ds : List Nat), ∃ u1 u8 u9 u10 u11 u12 u13 u14 u15 u16 u17 u18 u19 u20 u21 u22 u25 u26 u27 u28 u29 u30 u31 u33 u34 u35 u36 u37 u38 u39 u40 u41 u42 u43 u44 u45 u46 u47 u48 u49 u50 u51 u52 u53 u54 u55 u56 u57 u58 u59 u60, (n = ls.length ∧ SInv w1 w' l s0 m (w.heap.size + 1 + 1) (wr.heap.size + 1) bm (wr.heap.size + 1 + 1 + 1) k ls γ) ∧ MarksIn w.heap.size w' Ds ∧ a' = ⟨#[.agg #[I l.boards, I l.rows, .slice ha l.hooks.length hc, .slice pa l.patches.length pc, .slice (some ⟨g, 0, none⟩) l.rows.toNat l.rows.toNat], u1, .pointer (some ⟨w.heap.size, 0, none⟩), .pointer (some ⟨w.heap.size + 1, 0, none⟩), .slice (some ⟨g4, 0, none⟩) (k + 1) cap4, .pointer (some ⟨w.heap.size + 1 + 1, 0, none⟩), .pointer (some ⟨wr.heap.size, 0, none⟩), .pointer (some ⟨wr.heap.size + 1 + 1, 0, none⟩), u8, u9, u10, u11, u12, u13, u14, u15, u16, u17, u18, u19, u20, u21, u22, I (l.rows - 1), I k, u25, u26, u27, u28, u29, u30, u31, .pointer (some ⟨wr.heap.size + 1 + 1 + 1, 0, none⟩), u33, u34, u35, u36, u37, u38, u39, u40, u41, u42, u43, u44, u45, u46, u47, u48, u49, u50, u51, u52, u53, u54, u55, u56, u57, u58, u59, u60], Ds.map Mark⟩) ls.length ?start2 ?round2
    case start2 =>
      refine ⟨ls, γ, Ds, ?_⟩
      (repeat apply Exists.intro)
      refine ⟨⟨rfl, ?_⟩, HD.out.later hbW, rfl⟩
      exact ⟨hW, cN.congr (fun t => ⟨fun h => h.elim, fun ⟨_, s, ⟨h1, h2⟩, _⟩ => h2 ((Hls.out s).2 ((HmP.out s).2 h1))⟩), RR.out.γb.later hbW, RR.out.gut.congr (fun j => ⟨fun h => .inl h, fun h => h.elim id (fun ⟨_, s, ⟨h1, h2⟩, _⟩ => (h2 ((Hls.out s).2 ((HmP.out s).2 h1))).elim)⟩), Moves.refl _, fun s hs => (HmP.out s).1 ((Hls.out s).1 hs)⟩
    clear hW cN
    clear u1 u8 u9 u10
    rintro n2 a2 w2 ⟨ls2, γ2, hI2⟩ J2 K2 hJ2 hK2
    have HJ2 := Lib.hid hJ2
    clear hJ2
    revert hI2; refine ex_arrow fun Ds => ex_arrow fun u1 => ex_arrow fun u8 => ex_arrow fun u9 => ex_arrow fun u10 => ex_arrow fun u11 => ex_arrow fun u12 => ex_arrow fun u13 => ex_arrow fun u14 => ex_arrow fun u15 => ex_arrow fun u16 => ex_arrow fun u17 => ex_arrow fun u18 => ex_arrow fun u19 => ex_arrow fun u20 => ex_arrow fun u21 => ex_arrow fun u22 => ex_arrow fun u25 => ex_arrow fun u26 => ex_arrow fun u27 => ex_arrow fun u28 => ex_arrow fun u29 => ex_arrow fun u30 => ex_arrow fun u31 => ex_arrow fun u33 => ex_arrow fun u34 => ex_arrow fun u35 => ex_arrow fun u36 => ex_arrow fun u37 => ex_arrow fun u38 => ex_arrow fun u39 => ex_arrow fun u40 => ex_arrow fun u41 => ex_arrow fun u42 => ex_arrow fun u43 => ex_arrow fun u44 => ex_arrow fun u45 => ex_arrow fun u46 => ex_arrow fun u47 => ex_arrow fun u48 => ex_arrow fun u49 => ex_arrow fun u50 => ex_arrow fun u51 => ex_arrow fun u52 => ex_arrow fun u53 => ex_arrow fun u54 => ex_arrow fun u55 => ex_arrow fun u56 => ex_arrow fun u57 => ex_arrow fun u58 => ex_arrow fun u59 => ex_arrow fun u60 => ?_; rintro ⟨⟨hn2, S⟩, hDs, rfl⟩
    have hz1 := Hz1.out
    have t6 : Box w2 wr.heap.size [I k] := S.mv.box c6 (by first | omega | (intro hh; simp only [Value.ownBlock, Option.some.injEq, reduceCtorEq] at hh; omega) | (intro hh; rcases hh with hh | hh | hh <;> omega))
    have t7 : Box w2 (wr.heap.size + 1 + 1) [.map (some (wr.heap.size + 1))] := S.mv.box c7 (by first | omega | (intro hh; simp only [Value.ownBlock, Option.some.injEq, reduceCtorEq] at hh; omega) | (intro hh; rcases hh with hh | hh | hh <;> omega))
    have tb : Box w2 w.heap.size [I l.boards, I l.rows, .slice ha l.hooks.length hc, .slice pa l.patches.length pc, .slice (some ⟨g, 0, none⟩) l.rows.toNat l.rows.toNat] := S.mv.box (RR.out.b.later hbW) (by first | omega | (intro hh; simp only [Value.ownBlock, Option.some.injEq, reduceCtorEq] at hh; omega) | (intro hh; rcases hh with hh | hh | hh <;> omega))
    have ts : Box w2 (w.heap.size + 1) [I s0.b, I s0.d] := S.mv.box (RR.out.s.later hbW) (by first | omega | (intro hh; simp only [Value.ownBlock, Option.some.injEq, reduceCtorEq] at hh; omega) | (intro hh; rcases hh with hh | hh | hh <;> omega))
    have tr : Row w2 (w.heap.size + 3) 114 1 g4 (k + 1) cap4 (ms.map fun b => .map (some b)) := (RR.out.row.later hbW).moves S.mv (by first | omega | (intro hh; simp only [Value.ownBlock, Option.some.injEq, reduceCtorEq] at hh; omega) | (intro hh; rcases hh with hh | hh | hh <;> omega))
    have hz2 := S.mv.size
    have hbw : Below w.heap.size w w2 := RR.out.below.trans ((hbW.mono RR.out.below.size).trans (S.mv.below (by omega) (fun i hi hh => by rcases hh with hh | hh | hh <;> omega)))
    have y7 := t7.cell 0 rfl
    have y6 := t6.cell 0 rfl
    have HsO := Lib.hid (fun s (h : s ∈ ls2) => Rch.on (onL_start h0) (S.sub s h))
    have SS := Lib.hid S
    have HDs := Lib.hid hDs
    have RL := tr.len
    clear hDs
    by_cases hne : ls2 = []
    · subst hne
      have hdn := fun ty => S.walk.done (P := Try.prog) ty
      clear S
      go_wp2_with (
        (at_builtin; (refine wpList_appendR rfl _ _ 110 rfl _ _ _ elemSets (w.heap.size + 3) (.slice (some ⟨g4, 0, none⟩) (k + 1) cap4) (k + 1) (ms.map fun b => .map (some b)) rfl (tr.alloc _) _ _ ([.map (some (wr.heap.size + 1))]) rfl rfl (Box.new' _ _ rfl) (by simp [Value.oneCell']) (by omega) (by first | omega | (simp only [World.size_alloc]; omega) | (simp; done)) ?_); intro g5 cap5 w5 hR5 hv5 hd5 hz5)
        simp only [World.size_alloc, Value.ownBlock, Option.some.injEq] at hd5 hz5)
      refine Handed.intro (n - 1) (by omega) (HJ.out _ _ _ ?_)
      refine ⟨k + 1, γ2, ms ++ [wr.heap.size + 1], g5, cap5, Ds, ?_⟩
      (repeat apply Exists.intro)
      refine ⟨⟨by omega, ?_⟩, ?_, by go_num⟩
      · have n1 : w.heap.size < g4 := by omega
        have nb : ¬ (wr.heap.size + 1 = g4) := by omega
        have bx : ∀ {b : Nat} {cs : List Value}, Box w2 b cs → b ≠ g4 → Box w5 b cs := fun h hn => hv5.box (h.alloc _) (by simp only [Value.ownBlock, Option.some.injEq]; exact fun e => hn e.symm)
        have st : ∀ {b : Nat} {P : St → Prop}, SetIs w2 b P → b ≠ g4 → SetIs w5 b P := fun h hn => (h.alloc _).moves hv5 (by simp only [Value.ownBlock, Option.some.injEq]; exact fun e => hn e.symm)
        refine ⟨bx tb (by omega), bx ts (by omega), bx SS.out.γb (by omega), by simp [RR.out.len], by simpa using hR5, ?_, SS.out.gut.congr fun j => ?_, hbw.trans (((Below.refl _ w2).alloc hbw.size _).trans (hv5.below (by simp; omega) (fun i hi => by simp only [Value.ownBlock, Option.some.injEq]; omega)))⟩
        · intro j hj
          by_cases e : j < ms.length
          · have h1 := RR.out.sets j e
            rw [List.getElem_append_left e]
            have h2 : SetIs w2 ms[j] (Rch l s0 j) := (h1.2.later hbW).moves SS.out.mv (by have a1 := h1.2.lt; have a2 := h1.2.no_box RR.out.γb; intro hh; rcases hh with hh | hh | hh <;> omega)
            exact ⟨h1.1, st h2 (h2.no_row tr)⟩
          · have e1 : j = ms.length := by simp at hj; omega
            subst e1
            rw [List.getElem_append_right (Nat.le_refl _)]
            simp only [Nat.sub_self, List.getElem_cons_zero]
            refine ⟨by omega, ?_⟩
            have hl := RR.out.len
            rw [hl]
            refine (st SS.out.next nb).congr fun t => ?_
            simp [Rch]
        · simp only [List.not_mem_nil, not_false_eq_true, and_true]
          constructor
          · rintro (⟨h1, h2⟩ | ⟨rfl, s, h1, t, h2, h3⟩)
            · exact ⟨by omega, h2⟩
            · exact ⟨by omega, s, h1, t, h2, h3⟩
          · rintro ⟨h1, h2⟩
            by_cases e : j < k
            · exact .inl ⟨e, h2⟩
            · have : j = k := by omega
              subst this
              obtain ⟨s, h1, t, h2, h3⟩ := h2
              exact .inr ⟨rfl, s, h1, t, h2, h3⟩
      · exact (HDs.out.later ((Below.refl _ _).alloc (Nat.le_refl _) _)).moves hv5 (fun d hd => by have := HDs.out.no_row tr d hd; simp only [Value.ownBlock, Option.some.injEq]; omega)
    · have hB : ∀ W, Below w.heap.size w W → BallAt W l ha hc pa pc g := fun W hb => H.later hb
      have HB := Lib.hid hB
      clear hB
      have p1 : w.heap.size < w2.heap.size := by omega
      have p2 : wr.heap.size < w2.heap.size := by omega
      have ke : ∀ s : St, ekSt s = .agg #[I s.b, I s.d] := fun _ => rfl
      go_wp2_with (first
        | (((with_reducible show wpList _ _ _ (⟨_, Op.next _ _, _, _, _, _⟩ :: _) _ _); (refine wpList_nextM rfl _ rfl goodSt.inj _ _ rfl _ S.walk hne ?_); intro s v w3 hs hv hW3 hm3 hz3 hent)
           have v7 := hm3.box t7 (by first | omega | (intro hh; simp only [Value.ownBlock, Option.some.injEq, reduceCtorEq] at hh; omega) | (intro hh; rcases hh with hh | hh | hh <;> omega))
           have v6 := hm3.box t6 (by first | omega | (intro hh; simp only [Value.ownBlock, Option.some.injEq, reduceCtorEq] at hh; omega) | (intro hh; rcases hh with hh | hh | hh <;> omega))
           have vb := hm3.box tb (by first | omega | (intro hh; simp only [Value.ownBlock, Option.some.injEq, reduceCtorEq] at hh; omega) | (intro hh; rcases hh with hh | hh | hh <;> omega))
           have hb3 : Below w.heap.size w w3 := hbw.trans (hm3.below (by omega) (fun i hi hh => by omega))
           have x7 := v7.cell 0 rfl
           have x6 := v6.cell 0 rfl
           have xb := fun i c h => vb.cell i (c := c) h
           have xb0 := xb 0 _ rfl
           have xb1 := xb 1 _ rfl
           have xb2 := xb 2 _ rfl
           have xb3 := xb 3 _ rfl
           have xb4 := xb 4 _ rfl
           clear xb)
        | (go_at_call 66; refine Calls.mono (follow_any l k s ha pa hc pc g _ (HB.out _ (hb3.alloc (by first | omega | (simp only [World.size_alloc]; omega) | (simp; done) | (simp; omega)) _)) (by omega) (by omega) (HsO.out s hs)) ?_; rintro e w4 ⟨hb, sb, rfl, q1, q2, q3, q4, hb4⟩))
      have zb4 := hb4.size
      simp only [World.size_alloc] at zb4 q1 q2
      have Hhk := Lib.hid (hookOf_bd V (k : Int) s.b)
      refine wp_range (P := Try.prog) (encs := encT (hk := hookOf l k s.b) (s := s)) rfl enter_follow [hb, sb]
        (fun b => b = w.heap.size + 1 + 1 ∨ b = wr.heap.size + 1) ?hKs ?hBs (follow_stops (hookOf l k s.b) s hb sb w4 ?b1 ?b2 ?b3 ?b4 ?b5 ?b6 q3 q4) (Below.refl _ _) (fun _ => rfl)
        (IInv l s0 (w.heap.size + 1 + 1) (wr.heap.size + 1) k ls2 (hk := hookOf l k s.b) (s := s)) (fun _ _ _ => False) (IInv.own _ _ _ _ _ _ _ (by omega)) (fun _ _ _ _ _ h => h.elim) ?h0
        (fun x a' W => ∃ (t10 : Nat) (u : Nat → Value), w4.heap.size ≤ t10 ∧ Box W t10 [I x.1.2.b, I x.1.2.d] ∧ a' = ⟨#[.agg #[I l.boards, I l.rows, .slice ha l.hooks.length hc, .slice pa l.patches.length pc, .slice (some ⟨g, 0, none⟩) l.rows.toNat l.rows.toNat], u 1, .pointer (some ⟨w.heap.size, 0, none⟩), .pointer (some ⟨w.heap.size + 1, 0, none⟩), .slice (some ⟨g4, 0, none⟩) (k + 1) cap4, .pointer (some ⟨w.heap.size + 1 + 1, 0, none⟩), .pointer (some ⟨wr.heap.size, 0, none⟩), .pointer (some ⟨wr.heap.size + 1 + 1, 0, none⟩), u 8, u 9, .pointer (some ⟨t10, 0, none⟩), u 11, u 12, u 13, u 14, u 15, u 16, u 17, u 18, u 19, u 20, u 21, u 22, u 23, u 24, u 25, u 26, u 27, u 28, u 29, u 30, u 31, u 32, u 33, u 34, u 35, u 36, u 37, u 38, u 39, u 40, u 41, u 42, u 43, u 44, u 45, u 46, u 47, u 48, u 49, u 50, u 51, u 52, u 53, u 54, u 55, u 56, u 57, u 58, u 59, u 60], []⟩) ?hAx ?assign ?body ?done ?stop
      case hKs => intro b hb'; simp only [List.mem_cons, List.not_mem_nil, or_false] at hb'; rcases hb' with rfl | rfl <;> constructor <;> first | exact q3.lt | exact q4.lt | omega
      case hBs => rintro b (rfl | rfl) <;> omega
      case b1 => exact Hhk.out.1
      case b2 => exact Hhk.out.2.2
      case b3 => exact (Rch.d (start_d h0) (SS.out.sub s hs)).1
      case b4 => exact (Rch.d (start_d h0) (SS.out.sub s hs)).2
      case b5 =>
                  have h1 : 1 ≤ s.b ∧ s.b ≤ l.boards := by simpa [onL] using HsO.out s hs
                  have := V.b2; omega
      case b6 =>
                  have h1 : 1 ≤ s.b ∧ s.b ≤ l.boards := by simpa [onL] using HsO.out s hs
                  have := V.b2; omega
      case h0 =>
        have hm4 : Moves (fun b => b = wr.heap.size + 1 + 1 + 1) w2 w4 := (hm3.alloc _).trans (Moves.of_below (Bs := fun _ => False) hb4) (fun _ _ h => h.elim)
        exact ⟨γ2, (SS.out.next.moves hm4 (by first | omega | (intro hh; simp only [Value.ownBlock, Option.some.injEq, reduceCtorEq] at hh; omega) | (intro hh; rcases hh with hh | hh | hh <;> omega))).congr (by simp), hm4.box SS.out.γb (by first | omega | (intro hh; simp only [Value.ownBlock, Option.some.injEq, reduceCtorEq] at hh; omega) | (intro hh; rcases hh with hh | hh | hh <;> omega)), SS.out.gut.congr (by simp)⟩
      case hAx =>
        rintro x a' _ W W' row ⟨t10, u, h1, h2, h3⟩ hg hr
        exact ⟨t10, u, h1, own_box (β := Unit) () W W' row h2 hg hr, h3⟩
      case assign =>
        rintro l' pre x W K3 hm hI hK3
        rw [show encT x = #[I x.1.1, .agg #[I x.1.2.b, I x.1.2.d]] from rfl, zip_two]
        simp only [List.setIfInBounds_toArray, List.set_cons_succ, List.set_cons_zero]
        gi_wp2_with fail
        refine hK3 _ _ ((Moves.refl W).alloc _) ((IInv.own _ _ _ _ _ w4.heap.size _ (by omega)).alloc _ hI) ⟨W.heap.size, fun i => #[undef, u1, undef, undef, undef, undef, undef, undef, .pointer (some ⟨w2.heap.size, 0, none⟩), u9, undef, u11, u12, u13, u14, u15, u16, u17, u18, u19, u20, u21, u22, I (l.rows - 1), I k, u25, u26, u27, u28, u29, u30, u31, .pointer (some ⟨wr.heap.size + 1 + 1 + 1, 0, none⟩), .tuple #[.bool true, .agg #[I s.b, I s.d], .bool true], .bool true, .tuple #[.agg #[I s.b, I s.d], .bool true], .agg #[I s.b, I s.d], .agg #[I l.boards, I l.rows, .slice ha l.hooks.length hc, .slice pa l.patches.length pc, .slice (some ⟨g, 0, none⟩) l.rows.toNat l.rows.toNat], I k, .agg #[I s.b, I s.d], .func (.func 88) #[] #[.pointer (some ⟨hb, 0, none⟩), .pointer (some ⟨sb, 0, none⟩)], I x.1.1, .agg #[I x.1.2.b, I x.1.2.d], u43, u44, u45, u46, u47, u48, u49, u50, u51, u52, u53, u54, u55, u56, u57, u58, u59, u60].getD i undef, hm.size, Box.new _ _ _, rfl⟩
      case body =>
        rintro l' pre x a' W hm hI ⟨t10, u, ht, hx10, rfl⟩ hlen
        obtain ⟨γ3, i1, i2, i3⟩ := hI
        have hm4 : Moves (fun b => b = w.heap.size + 1 + 1 ∨ b = wr.heap.size + 1 ∨ b = wr.heap.size + 1 + 1 + 1) w2 W := (((hm3.alloc _).trans (Moves.of_below (Bs := fun _ => False) hb4) (fun _ _ h => h.elim)).weaken (fun _ _ h => .inr (.inr h))).trans hm (fun _ _ h => by rcases h with h | h <;> simp [h])
        have v7 := hm4.box t7 (by first | omega | (intro hh; simp only [Value.ownBlock, Option.some.injEq, reduceCtorEq] at hh; omega) | (intro hh; rcases hh with hh | hh | hh <;> omega))
        have v6 := hm4.box t6 (by first | omega | (intro hh; simp only [Value.ownBlock, Option.some.injEq, reduceCtorEq] at hh; omega) | (intro hh; rcases hh with hh | hh | hh <;> omega))
        have vb := hm4.box tb (by first | omega | (intro hh; simp only [Value.ownBlock, Option.some.injEq, reduceCtorEq] at hh; omega) | (intro hh; rcases hh with hh | hh | hh <;> omega))
        have x7 := v7.cell 0 rfl
        have x6 := v6.cell 0 rfl
        have xb := fun i c h => vb.cell i (c := c) h
        have xb0 := xb 0 _ rfl
        have xb1 := xb 1 _ rfl
        have xb2 := xb 2 _ rfl
        have xb3 := xb 3 _ rfl
        have x10 := hx10.cell 0 rfl
        have x11 := hx10.cell 1 rfl
        have xg := i2.cell 0 rfl
        have xf := i2.free 0
        clear xb y6 y7
        have hW1 := hm.size
        by_cases hon : onL l x.1.2 = true
        · gi_wp2_with (first
            | (refine ⟨trivial, ?_⟩; gi_at_call 65; refine (CallsIn.inRound l' (callsIn_wide.2 (on_any l x.1.2 ha pa hc pc _))).mono ?_; rintro e w5 ⟨rfl, hb5⟩
               have n7 := (v7.later hb5).cell 0 rfl
               have n10 := (hx10.later hb5).cell 0 rfl
               have n11 := (hx10.later hb5).cell 1 rfl
               obtain ⟨m5, hm5, hP5⟩ := i1.later hb5)
            | ((with_reducible show wpListIn _ _ _ _ _ (⟨_, Op.mapUpdate _ _ _ _, _, _, _, _⟩ :: _) _ _); (refine wpListIn_updateM rfl _ _ _ 114 rfl _ _ rfl goodSt _ rfl hm5 (x.1.2) rfl (()) rfl ?_); intro w6 hMw6 hvw6 hzw6))
          refine ⟨(Moves.of_below hb5).trans hvw6 (fun _ _ h => .inr h), γ3, ⟨_, hMw6, fun t => ?_⟩, hvw6.box (i2.later hb5) (by first | omega | (intro hh; simp only [Value.ownBlock, Option.some.injEq, reduceCtorEq] at hh; omega) | (intro hh; rcases hh with hh | hh | hh <;> omega)), i3.congr (by simp [hon])⟩
          by_cases e : t = x.1.2
          · subst e; simp [upd, hon]
          · simp [upd, e, hP5, Ne.symm e]
        · simp only [Bool.not_eq_true] at hon
          gi_wp2_with (first
            | (refine ⟨trivial, ?_⟩; gi_at_call 65; refine (CallsIn.inRound l' (callsIn_wide.2 (on_any l x.1.2 ha pa hc pc _))).mono ?_; rintro e w5 ⟨rfl, hb5⟩
               have n6 := (v6.later hb5).cell 0 rfl
               have ng := (i2.later hb5).cell 0 rfl
               have nf := (i2.later hb5).free 0
               have hz5 : w.heap.size + 1 + 1 < w5.heap.size := by have := hb5.size; omega)
            | (refine ⟨trivial, ?_⟩; gi_at_call 67; refine (CallsIn.inRound l' (callsIn_wide.2 (least_two γ3 (k + 1) _ _ (by simp [go_sem]) (by simp [go_sem])))).mono ?_; rintro e w6 ⟨rfl, rfl⟩))
          refine ⟨((Moves.of_below hb5).set (fun _ => .inl rfl)).alloc _, _, (((i1.later hb5).set (by omega)).alloc _).congr (fun t => ?_), (((i2.later hb5).set 0 _).alloc _), (i3.add k).congr fun j => ?_⟩
          · refine or_congr Iff.rfl (and_congr_right fun ht => ?_)
            constructor
            · rintro ⟨y, hy, rfl⟩; exact ⟨y, by simp [hy], rfl⟩
            · rintro ⟨y, hy, rfl⟩
              rcases List.mem_append.1 hy with hy | hy
              · exact ⟨y, hy, rfl⟩
              · rw [List.mem_singleton.1 hy, hon] at ht; cases ht
          · rw [or_assoc]
            refine or_congr Iff.rfl ⟨?_, ?_⟩
            · rintro (⟨rfl, y, hy, ho⟩ | rfl)
              · exact ⟨rfl, y, by simp [hy], ho⟩
              · exact ⟨rfl, x, by simp, hon⟩
            · rintro ⟨rfl, _⟩; exact .inr rfl
      case done =>
        rintro D xs W hD hmD hS ⟨γ3, i1, i2, i3⟩ hk
        go_wp2_with fail
        have hRs := SS.out.sub s hs
        have hlen : (ls2.filter (fun x => decide (x ≠ s))).length < n2 := by
          rw [hn2]; exact List.length_filter_lt_length_iff_exists.2 ⟨s, hs, by simp⟩
        have hm3W : Moves (fun b => b = w.heap.size + 1 + 1 ∨ b = wr.heap.size + 1) w3 W := (((Moves.refl w3).alloc _).trans (Moves.of_below (Bs := fun _ => False) hb4) (fun _ _ h => h.elim)).trans hmD (fun _ _ h => h)
        have hm4 : Moves (fun b => b = w.heap.size + 1 + 1 ∨ b = wr.heap.size + 1 ∨ b = wr.heap.size + 1 + 1 + 1) w2 W := (hm3.weaken (Bs' := fun b => b = w.heap.size + 1 + 1 ∨ b = wr.heap.size + 1 ∨ b = wr.heap.size + 1 + 1 + 1) (fun _ _ h => .inr (.inr h))).trans hm3W (fun _ _ h => by rcases h with h | h <;> simp [h])
        have hg0 : bm ≠ w.heap.size + 1 + 1 := hm.no_box RR.out.γb
        refine Handed.intro _ hlen (HJ2.out _ _ _ ?_)
        refine ⟨ls2.filter (fun x => decide (x ≠ s)), γ3, D :: Ds, ?_⟩
        (repeat apply Exists.intro)
        refine ⟨⟨rfl, ?_⟩, ?_, rfl⟩
        · refine ⟨hW3.moves hm3W (by first | omega | (intro hh; simp only [Value.ownBlock, Option.some.injEq, reduceCtorEq] at hh; omega) | (intro hh; rcases hh with hh | hh | hh <;> omega)) (by first | omega | (intro hh; simp only [Value.ownBlock, Option.some.injEq, reduceCtorEq] at hh; omega) | (intro hh; rcases hh with hh | hh | hh <;> omega)), i1.congr fun t => ?_, i2, i3.congr fun j => ?_, SS.out.mv.trans hm4 (fun _ _ h => h), fun s' hs' => SS.out.sub s' (List.mem_filter.1 hs').1⟩
          · rw [← and_or_left]
            refine and_congr_right fun _ => ?_
            rw [seen_iff hS (fun u => u = t), ← left_iff hRs (fun s' => t ∈ stepsOf l k s')]
            simp
          · rw [or_assoc, ← and_or_left, seen_iff hS (fun u => onL l u = false), left_iff hRs (fun s' => ∃ t ∈ stepsOf l k s', onL l t = false)]
        · refine HDs.out.push (HDs.out.moves hm4 fun d hd => ?_) (by first | omega | (simp only [World.size_alloc]; omega) | (simp; done) | (simp; omega)) (by first | omega | (simp only [World.size_alloc]; omega) | (simp; done) | (simp; omega)) hk
          have d1 := HDs.out.no_box SS.out.γb d hd
          have d2 := HDs.out.no_set SS.out.next d hd
          have d3 := HDs.out.no_walk SS.out.walk d hd
          intro hh; rcases hh with hh | hh | hh <;> omega
      case stop => exact fun _ _ _ _ _ _ _ h => h.elim
  · have yg := R.γb.cell 0 rfl
    have yf := R.γb.free 0
    have hke : k + 1 = l.rows.toNat := by omega
    have RR := Lib.hid R
    have HDs := Lib.hid hDs
    clear R hDs
    go_wp2_with fail
    go_region
    go_wp2_with fail
    have xg : Box (wr.setCell ⟨w.heap.size + 1 + 1, 0, none⟩ (I γ)).drew (w.heap.size + 1 + 1) [I γ] := (RR.out.γb.set 0 (I γ)).drew
    have hmv : Moves (fun b => b = w.heap.size + 1 + 1) wr (wr.setCell ⟨w.heap.size + 1 + 1, 0, none⟩ (I γ)).drew := ((Moves.refl (Bs := fun b => b = w.heap.size + 1 + 1) wr).set (fun _ => rfl)).drew
    refine ⟨Ds, rfl, ?_, fun w' hw => ⟨.tuple #[.slice (some ⟨g4, 0, none⟩) l.rows.toNat cap4, I γ], ?_, g4, cap4, ms, γ, rfl, ?_⟩⟩
    · exact HDs.out.moves hmv (HDs.out.no_box RR.out.γb)
    · have yc := (hw.box xg).cell 0 rfl
      simp [results, Try.results58, go_sem, yc]
    · have hr := (RR.out.row.moves hmv (by have := RR.out.row.ge; omega)).wiped hw
      rw [hke] at hr
      refine ⟨RR.out.len.trans hke, hr.low (by have := RR.out.row.ge; omega), fun j hj => ?_, RR.out.gut.congr (fun j => ?_), hw.below (RR.out.below.trans (Moves.below hmv RR.out.below.size (fun i hi => by omega))) (Nat.le_refl _)⟩
      · have h1 := RR.out.sets j hj
        exact ⟨h1.1, (h1.2.moves hmv (h1.2.no_box RR.out.γb)).wiped hw⟩
      · constructor <;> rintro ⟨h1, h2⟩ <;> exact ⟨by omega, h2⟩
end Go.Proofs.Ytcfhbnfincpehaa
