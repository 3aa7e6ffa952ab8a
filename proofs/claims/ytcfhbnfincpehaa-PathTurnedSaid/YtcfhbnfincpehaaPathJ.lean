/- The walk of package path: sorted. -/
import Derived.Test.YtcfhbnfincpehaaPathI
namespace Go.Proofs.Ytcfhbnfincpehaa
open Go.RowKit Go.Shelf Go.Proofs

theorem nodup_len {α : Type} [DecidableEq α] : ∀ (xs ys : List α), xs.Nodup → (∀ x ∈ xs, x ∈ ys) → xs.length ≤ ys.length
  | [], ys, _, _ => Nat.zero_le _
  | x :: xs, ys, hn, hs => by
    have hx := hs x (by simp)
    have h1 := nodup_len xs (ys.erase x) (List.nodup_cons.1 hn).2 (fun y hy => (List.mem_erase_of_ne (fun e => by subst e; exact (List.nodup_cons.1 hn).1 hy)).2 (hs y (by simp [hy])))
    rw [List.length_erase_of_mem hx] at h1
    have := List.length_pos_of_mem hx
    simp; omega
theorem few_states (ls : List St) (hn : ls.Nodup) (hs : ∀ s ∈ ls, okSt s) : ls.length ≤ 22011 := by
  have h1 : (ls.map fun s => ((s.b + 1000) * 11 + (s.d + 5)).toNat).Nodup := by
    rw [List.Nodup, List.pairwise_map]
    refine List.Pairwise.imp_of_mem (fun {a b} ha hb hne e => hne ?_) hn
    obtain ⟨a1, a2, a3, a4⟩ := hs a ha
    obtain ⟨b1, b2, b3, b4⟩ := hs b hb
    have : a.b = b.b ∧ a.d = b.d := by omega
    cases a; cases b; simp_all
  have := nodup_len _ (List.range 22011) h1 (fun x hx => by
    obtain ⟨s, hsm, rfl⟩ := List.mem_map.1 hx
    obtain ⟨a1, a2, a3, a4⟩ := hs s hsm
    rw [List.mem_range]; omega)
  simpa using this

theorem elemSt : ElemOf Try.prog 30 39 2 16 := .mk' (z := .agg #[I 0, I 0]) Try.underlying30 (by kernel_rfl) rfl (by decide) (by decide)

/-- Of new memory. -/
def NewSl (B : Nat) (u : Value) : Prop := ∀ a n cap, u = .slice (some a) n cap → B ≤ a.block
set_option maxRecDepth 100000 in
set_option maxHeartbeats 1000000 in
theorem sorted_any (b : Nat) (P : St → Prop) (w : World) (hS : SetIs w b P) (hP : ∀ t, P t → okSt t) :
    Calls Try.prog 59 #[.map (some b)] w fun e w' => ∃ (ts : List St) (v : Value), e = .returned v ∧ SlOf encSt w' v ts ∧ (∀ t, t ∈ ts ↔ P t) ∧ ts.Pairwise (fun x y => lessS x y = true) ∧ NewSl w.heap.size v ∧ Below w.heap.size w w' := by
  obtain ⟨m, hm, hmP⟩ := hS
  have hlt := hm.lt
  have HmP := Lib.hid hmP
  have HP := Lib.hid hP
  clear hmP hP
  go_enter Try.func59, Try.ntmps59
  go_wp2_with (
     ((with_reducible show wpList _ _ _ (⟨_, Op.range _ _, _, _, _, _⟩ :: _) _ _); (refine wpList_rangeM rfl _ 114 rfl _ _ rfl goodSt.inj _ rfl hm ?_); intro ls w1 hW hN hls hbw1 hz1)
     have HN := Lib.hid hN
     have Hls := Lib.hid hls
     clear hN hls)
  have hfew : ls.length ≤ 22011 := few_states ls HN.out (fun s hs => HP.out s ((HmP.out s).1 ((Hls.out s).1 hs)))
  show Code.wp _ _ _ ⟨#[.map (some b), undef, .slice none 0 0, undef, .map (some b), .pointer (some ⟨w.heap.size, 0, none⟩), undef, undef, undef, undef, undef, undef, undef, undef, undef, undef, undef], []⟩ _
  go_loopg [2] (ls.length) (fun n v W => ∃ (ls2 : List St) (ds : List BSt), n = ls2.length ∧ WalkIs W b w.heap.size ekSt (fun _ : Unit => .bool true) m ls2 ∧ W.ownsRow (w.heap.size + 1) 39 2 v ds.length (ds.flatMap encB) ∧ ds.Nodup ∧
    (∀ x ∈ ds, P x.1 ∧ x.1 ∉ ls2) ∧ (∀ t, P t → t ∈ ls2 ∨ ∃ h, (⟨t, h⟩ : BSt) ∈ ds) ∧ (∀ t ∈ ls2, P t) ∧ Below w.heap.size w W ∧ w.heap.size < W.heap.size)
  case atStart => exact ⟨ls, [], rfl, hW, World.ownsRow_nil _ _ _ _, List.nodup_nil, by simp, fun t ht => .inl ((Hls.out t).2 ((HmP.out t).2 ht)), fun t ht => (HmP.out t).1 ((Hls.out t).1 ht), hbw1, by omega⟩
  case round =>
    obtain ⟨ls2, ds, rfl, hW2, ho, hnd, hd, hr, hp, hb2, hz2⟩ := hrel
    have HD := Lib.hid (And.intro hd (And.intro hr hp))
    have hdl : ds.length ≤ 22011 := by
      have := few_states (ds.map (·.1)) (by rw [List.Nodup, List.pairwise_map]; exact hnd.imp (fun h e => h (Subtype.ext e))) (fun s hs => by obtain ⟨x, _, rfl⟩ := List.mem_map.1 hs; exact x.2)
      simpa using this
    clear hd hr hp
    by_cases hne : ls2 = []
    · subst hne
      have hdn := fun ty => hW2.done (P := Try.prog) ty
      rcases ho.2 with ⟨rfl, h0⟩ | ⟨g, cap, cur, rfl, _⟩
      · have hno := fun W => AnyF.slices_SortFunc_none Try.sortSt none 0 (.func (.func 87) #[] #[]) W
        change ∀ W, Calls Try.prog 86 _ _ _ at hno
        go_wp2_with (go_at_call 86; refine Calls.mono (hno _) ?_; rintro e w' ⟨rfl, rfl⟩)
        go_ret
        have hds : ds = [] := List.eq_nil_of_length_eq_zero h0
        subst hds
        exact ⟨[], _, rfl, ⟨none, 0, rfl, ⟨Nat.le_refl _, by decide, fun _ => ⟨rfl, rfl⟩, fun h => absurd rfl h⟩⟩, fun t => ⟨by simp, fun h => by have := HD.out.2.1 t h; simp at this⟩, .nil, (fun a n cap h => (by have := (show (Value.slice none 0 0) = _ from h); cases this)), hb2⟩
      · rename_i hrest
        obtain ⟨hge, hk, hn, hc, hcs, _⟩ := hrest
        have hR : Row wr (w.heap.size + 1) 39 2 g ds.length cap (ds.flatMap encB) := ho
        have HR := Lib.hid hR
        clear ho hR hk hcs
        go_wp2_with (go_at_call 86; refine Calls.mono (sort_states ds HR.out hnd (by omega) (by omega)) ?_; rintro e w4 ⟨rfl, ts, hpm, hso, hce, hb4⟩)
        go_ret
        have hlen : (ts.map (·.1)).length = ds.length := by simp [hpm.length_eq]
        refine ⟨ts.map (·.1), _, rfl, ⟨some ⟨g, 0, none⟩, cap, by rw [hlen]; rfl, ⟨by rw [hlen]; exact hn, hc, fun h => (by cases h), fun _ => ⟨g, 0, rfl, Nat.lt_of_lt_of_le HR.out.lt hb4.size, ?_⟩⟩⟩, fun t => ?_, ?_, (fun a n cap h => (by cases h; show w.heap.size ≤ g; omega)), hb2.trans (hb4.mono (by omega))⟩
        · rw [List.flatMap_map]; exact hce
        · rw [List.mem_map]
          constructor
          · rintro ⟨x, hx, rfl⟩; exact (HD.out.1 x (hpm.mem_iff.1 hx)).1
          · intro h
            rcases HD.out.2.1 t h with h' | ⟨h1, h2⟩
            · simp at h'
            · exact ⟨⟨t, h1⟩, hpm.mem_iff.2 h2, rfl⟩
        · rw [List.pairwise_map]; exact hso
    · have ke : ∀ s : St, ekSt s = .agg #[I s.b, I s.d] := fun _ => rfl
      have HO := Lib.hid ho
      have HND := Lib.hid hnd
      clear ho hnd
      go_wp2_with (first
        | (((with_reducible show wpList _ _ _ (⟨_, Op.next _ _, _, _, _, _⟩ :: _) _ _); (refine wpList_nextM rfl _ rfl goodSt.inj _ _ rfl _ hW2 hne ?_); intro s u w3 hs hv hW3 hm3 hz3 hent)
           have ho3 := owns_moves HO.out hm3 (fun k hk => by have := owns_ge HO.out k hk; omega)
           have HO3 := Lib.hid ho3
           clear ho3)
        | ((at_builtin; (refine wpList_appendR rfl _ _ 30 rfl _ _ _ elemSt (w.heap.size + 1) (u2) (ds.length) (ds.flatMap encB) rfl ((HO3.out.alloc _).alloc _) _ _ ([I s.b, I s.d]) rfl rfl (Box.new' _ _ (by simp [hz3])) (by simp [Value.oneCell']) (by omega) (by first | omega | (simp only [World.size_alloc]; omega) | (simp; done)) ?_); intro g5 cap5 w5 hR5 hv5 hd5 hz5)))
      have hPs := HD.out.2.2 s hs
      have hok := HP.out s hPs
      have hon : ∀ k, u2.ownBlock = some k → w.heap.size + 1 ≤ k ∧ k < wr.heap.size := fun k hk => owns_ge HO.out k hk
      go_roundg ((ls2.filter (fun x => decide (x ≠ s))).length)
      case measure => exact List.length_filter_lt_length_iff_exists.2 ⟨s, hs, by simp⟩
      case rel =>
        have hlts := hW2.lt
        have hW5 : WalkIs w5 b w.heap.size ekSt (fun _ : Unit => .bool true) m (ls2.filter (fun x => decide (x ≠ s))) :=
          hW3.moves (((Moves.refl w3).alloc _ |>.alloc _).trans hv5 (fun _ _ h => h)) (fun h => by have := hon _ h; omega) (fun h => by have := hon _ h; omega)
        have hb3 : Below w.heap.size w w5 := (hb2.trans (hm3.below (by omega) (fun i hi => by omega))).trans ((((Below.refl _ _).alloc (by omega) _).alloc (by simp; omega) _).trans (hv5.below (by simp; omega) (fun i hi h => by have := hon _ h; omega)))
        refine ⟨_, ds ++ [⟨s, hok⟩], rfl, hW5, ?_, ?_, ?_, ?_, fun t ht => HD.out.2.2 t (List.mem_filter.1 ht).1, hb3, ?_⟩
        · have := hR5
          unfold Row at this
          simpa [encB, encSt] using this
        · refine List.nodup_append.2 ⟨HND.out, by simp, ?_⟩
          intro a ha c hc e
          rw [List.mem_singleton.1 hc] at e
          subst e
          exact (HD.out.1 _ ha).2 hs
        · intro x hx
          rcases List.mem_append.1 hx with hx | hx
          · exact ⟨(HD.out.1 x hx).1, fun h => (HD.out.1 x hx).2 (List.mem_filter.1 h).1⟩
          · rw [List.mem_singleton.1 hx]
            exact ⟨hPs, by simp⟩
        · intro t ht
          by_cases e : t = s
          · subst e; exact .inr ⟨hok, by simp⟩
          · rcases HD.out.2.1 t ht with h | ⟨h1, h2⟩
            · exact .inl (List.mem_filter.2 ⟨h, by simpa using e⟩)
            · exact .inr ⟨h1, by simp [h2]⟩
        · have := hb3.size; have := hW5.lt; omega
end Go.Proofs.Ytcfhbnfincpehaa
