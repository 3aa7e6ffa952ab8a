/- Ways in and out, loops, cuts, guards. Nothing is asked. -/
import Derived.Test.YtcfhbnfincpehaaJ3
namespace Go.Proofs.Ytcfhbnfincpehaa
open Go.RowKit Go.Shelf

theorem leaves_marks {P : Program} {n : Nat} {fn : Func} {tmps : Array Value} {R : Ending → World → Prop} {Bs : Nat → Prop} (w0 : World) : ∀ (Ds : List Nat) (w : World), Ds.Nodup → (∀ D ∈ Ds, Bs D ∧ w.heap[D]? = some (.deferred (some []))) → Moves Bs w0 w →
    (∀ w', Moves Bs w0 w' → ∃ v, (results fn tmps).run P w' = .ok v w' ∧ R (.returned v) w') → LeavesInM Fence.wide n P fn tmps R (Ds.map Mark) .returning w
  | [], w, _, _, hw, h => h w hw
  | D :: Ds, w, hn, hm, hw, h => by
    have hD := hm D (by simp)
    refine ⟨by simp, .inl ⟨D, _, rfl, run_takeDeferred hD.2, leaves_marks w0 Ds _ (List.nodup_cons.1 hn).2 (fun x hx => ⟨(hm x (by simp [hx])).1, ?_⟩) ?_ h⟩⟩
    · have hne : x ≠ D := fun e => (List.nodup_cons.1 hn).1 (e ▸ hx)
      rw [World.putObj_heap_other hne]; exact (hm x (by simp [hx])).2
    · refine hw.trans (Bs' := Bs) ⟨rfl, rfl, rfl, by simp [World.putObj], fun k hk hb => ?_⟩ (fun _ _ h => h)
      exact World.putObj_heap_other (fun e => hb (e ▸ hD.1))

section
variable {X : Ctx} {P : Program} {st st2 : Sto} {H H2 H' D : List Chunk} {R R' : World → Prop} {k : Kont} {ops : Array Oper} {rest : List Oper} {Q : Exit → Act → World → Prop}

/-- What a function's body must come to. -/
abbrev RetK (P : Program) (fn : Func) (M : Nat → Prop) (w : World) (Hp : List Chunk) {α : Type} (ret : α → Value) (Hq : α → List Chunk) (post : α → World → Prop) : Kont :=
  .done (bodyPostM Fence.wide 3 P fn (CxPost M w Hp ret Hq post))
abbrev OwnOf (Hp : List Chunk) : Nat → Prop := fun b => ∃ c ∈ Hp, c.own b

theorem JE_out {e : Exit} (he : e = .ret ∨ e = .normal) {N : Nat} {w0 : World} {M0 : Nat → Prop} {fn : Func} {Hp : List Chunk} {α : Type} {ret : α → Value} {Hq : α → List Chunk} {post : α → World → Prop} {v : Value} (x : α)
    (hres : Results P st H fn v) (hv : v = ret x) (hH : H.Perm (Hq x ++ D)) (hR : ∀ w, R w → post x w) :
    JE (mkX N w0 (OwnOf Hp) M0) P e (RetK P fn M0 w0 Hp ret Hq post) st H R := by
  subst hv
  intro a w ⟨hs, M, Ds, hd, hm⟩
  have hmain : LeavesInM Fence.wide 3 P fn a.tmps (CxPost M0 w0 Hp ret Hq post) a.defers .returning w := by
    rw [hd]
    refine leaves_marks (Bs := (· ∈ Ds)) w Ds w hm.mks.1 (fun D hD => ⟨hD, (hm.mks.2 D hD).2⟩) (Moves.refl w) fun w' hw => ?_
    have hMw : Moves M w w' := hw.weaken fun i _ hi => hm.mkM i hi
    have hh : ∀ c ∈ H, c.holds w' := fun c hc => (hm.hold c hc).later hw.size fun b hb => hw.block b ((hm.hold c hc).bd b hb) fun hD => hm.mkH b hD c hc hb
    have hsub : ∀ c ∈ Hq x, c ∈ H := fun c hc => hH.mem_iff.2 (List.mem_append.2 (.inl hc))
    refine ⟨ret x, hres N a w' hs hh, x, M, rfl, ?_, hm.m0, hm.m1, fun b hb => Nat.lt_of_lt_of_le (hm.bd b hb) hw.size, fun c hc => ⟨hh c (hsub c hc), fun b hb => ⟨hm.own c (hsub c hc) b hb, ?_⟩⟩, ?_, fun w2 h2 => hR w2 (hm.keep w2 (hMw.trans h2 fun _ _ h => h))⟩
    · exact (show Moves (OwnOf Hp) w0 w from hm.mv).trans hw fun i hi hD => by
        have h1 := (hm.mks.2 i hD).1
        have h2 : w0.heap.size ≤ i := h1
        omega
    · exact hm.fp c (hsub c hc) b hb
    · exact (List.pairwise_append.1 (hH.pairwise hm.dis (fun hs b hb hc => hs b hc hb))).1
  rcases he with rfl | rfl <;> exact hmain

theorem Cx_of {f : FuncId} {fn : Func} {c : Code} {N : Nat} {args : List Value} {Hp : List Chunk} {pre : World → Prop} {α : Type} {ret : α → Value} {Hq : α → List Chunk} {post : α → World → Prop}
    (hf : P.funcs[f]? = some fn) (hb : fn.body = some c) (hN : fn.ntmps = N) (ha : Nat.ble args.length N = true)
    (h : ∀ (w0 : World) (M0 : Nat → Prop), JC (mkX N w0 (OwnOf Hp) M0) P c (RetK P fn M0 w0 Hp ret Hq post) (params args 0) Hp pre) : Cx P f args Hp pre ret Hq post := by
  intro M w h1 h2 h3 h4
  have ha' := Nat.le_of_ble_eq_true ha
  refine (callsIn_wide (n := 3)).1 (callsIn_of_wp_marks hf hb trivial (h w M _ _ ⟨⟨?_, ?_⟩, M, [], rfl, ?_⟩) rfl)
  · show (args.toArray ++ Array.replicate (fn.ntmps - args.toArray.size) undef).size = N
    simp [hN]; omega
  · intro t v hv
    obtain ⟨_, hv⟩ := look_params args 0 t v hv
    simp only [Nat.sub_zero] at hv
    have hlt := (List.getElem?_eq_some_iff.1 hv).1
    simp only [Array.getD_eq_getD_getElem?]
    rw [Array.getElem?_append_left (by simpa using hlt)]
    simp [hv]
  · exact ⟨h1, fun c hc => (h2 c hc).1, fun c hc => (h2 c hc).2, fun c hc b hb => .inl ⟨c, hc, hb⟩, h3, h4, Moves.refl w, fun _ h => h, fun _ h => .inl h, MarksIn.nil _ _, by simp, by simp, h1, fun _ => rfl⟩

/-! Weaker states. -/
def StSub (st st2 : Sto) : Prop := ∀ t v, look st2 t = some v → look st t = some v
theorem stsub_nil : StSub st [] := fun t v h => by cases h
theorem stsub_cons {t : Nat} {v : Value} (h : look st t = some v) (h2 : StSub st st2) : StSub st ((t, v) :: st2) := fun t' v' h' => by
  simp only [look] at h'
  by_cases e : t = t'
  · subst e; simp at h'; rw [← h']; exact h
  · rw [beq_no e] at h'; exact h2 t' v' h'
theorem stsub_refl : StSub st st := fun _ _ h => h
def HSub (H H2 : List Chunk) : Prop := ∃ D, H.Perm (H2 ++ D)
theorem hsub_refl : HSub H H := ⟨[], by simp⟩
theorem hsub_drop (n : Nat) (h : H.drop n = H2) : HSub H H2 := ⟨H.take n, by
  have e := List.perm_append_comm (l₁ := H.take n) (l₂ := H.drop n)
  rw [List.take_append_drop, h] at e; exact e⟩
theorem hsub_nil : HSub H [] := ⟨H, by simp⟩
class Pick (H : List Chunk) (c : Chunk) (H' : outParam (List Chunk)) : Prop where
  perm : H.Perm (c :: H')
instance (H : List Chunk) (c : Chunk) : Pick (c :: H) c H := ⟨List.Perm.refl _⟩
instance (H H' : List Chunk) (c e : Chunk) [h : Pick H c H'] : Pick (e :: H) c (e :: H') := ⟨(h.perm.cons e).trans (List.Perm.swap c e H')⟩
instance (A B B' : List Chunk) (c : Chunk) [h : Pick B c B'] : Pick (A ++ B) c (A ++ B') := ⟨(h.perm.append_left A).trans List.perm_middle⟩
instance (A A' B : List Chunk) (c : Chunk) [h : Pick A c A'] : Pick (A ++ B) c (A' ++ B) := ⟨h.perm.append_right B⟩
theorem hsub_cons {c : Chunk} [h : Pick H c H'] (h2 : HSub H' H2) : HSub H (c :: H2) := by
  obtain ⟨D, hD⟩ := h2
  exact ⟨D, h.perm.trans (hD.cons c)⟩
theorem Ok.weak {a : Act} {w : World} (h : Ok X st H R a w) (hs : StSub st st2) (hH : HSub H H2) (hR : ∀ w, R w → R' w) : Ok X st2 H2 R' a w := by
  obtain ⟨D, hD⟩ := hH
  obtain ⟨h1, M, Ds, h2, h3⟩ := h
  exact ⟨⟨h1.size, fun t v ht => h1.get t v (hs t v ht)⟩, M, Ds, h2, ((h3.perm (hD.trans List.perm_append_comm)).drop).know hR⟩
theorem JC_weak {c : Code} (hs : StSub st st2) (hH : HSub H H2) (hR : ∀ w, R w → R' w) (h : JC X P c k st2 H2 R') : JC X P c k st H R := fun a w ho => h a w (ho.weak hs hH hR)
theorem JE_weak {e : Exit} (hs : StSub st st2) (hH : HSub H H2) (hR : ∀ w, R w → R' w) (h : JE X P e k st2 H2 R') : JE X P e k st H R := fun a w ho => h a w (ho.weak hs hH hR)
theorem JL_weak (hs : StSub st st2) (hH : HSub H H2) (hR : ∀ w, R w → R' w) (h : JL X P ops Q rest st2 H2 R') : JL X P ops Q rest st H R := fun a w ho => h a w (ho.weak hs hH hR)

/-! Loops and cuts. -/
theorem JC_loop {γ : Type} {body : Code} (I : γ → Prop) (st' : γ → Sto) (H' : γ → List Chunk) (R' : γ → World → Prop) (μ : γ → Nat) (g0 : γ) (hI : I g0) (hs : StSub st (st' g0)) (hH : HSub H (H' g0)) (hR : ∀ w, R w → R' g0 w)
    (round : ∀ g, I g → ∀ K : Act → World → Prop, (∀ g', I g' → μ g' < μ g → ∀ a w, Ok X (st' g') (H' g') (R' g') a w → K a w) → JC X P body (.thenP K k) (st' g) (H' g) (R' g)) : JC X P (.loop body) k st H R := by
  intro a w ho
  refine wpIn_loop_ghost (fun n a w => ∃ g, μ g = n ∧ I g ∧ Ok X (st' g) (H' g) (R' g) a w) (μ g0) ⟨g0, rfl, hI, ho.weak hs hH hR⟩ ?_
  rintro n a w ⟨g, rfl, hg, ho⟩
  exact round g hg _ (fun g' hg' hlt a w ho' => ⟨μ g', hlt, g', rfl, hg', ho'⟩) a w ho
theorem JE_round {γ : Type} {I : γ → Prop} {st' : γ → Sto} {H' : γ → List Chunk} {R' : γ → World → Prop} {μ : γ → Nat} {g : γ} {K : Act → World → Prop} (hK : ∀ g', I g' → μ g' < μ g → ∀ a w, Ok X (st' g') (H' g') (R' g') a w → K a w)
    (g' : γ) (hI : I g') (hlt : μ g' < μ g) (hs : StSub st (st' g')) (hH : HSub H (H' g')) (hR : ∀ w, R w → R' g' w) : JE X P .normal (.thenP K k) st H R :=
  fun a w ho => hK g' hI hlt a w (ho.weak hs hH hR)
theorem JC_cut {γ : Type} {c1 c2 : Code} (I : γ → Prop) (st' : γ → Sto) (H' : γ → List Chunk) (R' : γ → World → Prop)
    (h1 : ∀ K : Act → World → Prop, (∀ g, I g → ∀ a w, Ok X (st' g) (H' g) (R' g) a w → K a w) → JC X P c1 (.thenP K k) st H R)
    (h2 : ∀ g, I g → JC X P c2 k (st' g) (H' g) (R' g)) : JC X P (.seq c1 c2) k st H R :=
  fun a w ho => wpIn_seq (h1 _ (fun g hg a w ho => h2 g hg a w ho) a w ho)
theorem JC_cut2 {γ : Type} {c1 c2 : Code} (I : γ → Prop) (st' : γ → Sto) (H' : γ → List Chunk) (R' : γ → World → Prop)
    (h1 : ∀ K : Act → World → Prop, (∀ g, I g → ∀ a w, Ok X (st' g) (H' g) (R' g) a w → K a w) → JC X P c1 (.thenP K k) st H R)
    (h2 : ∀ g, I g → JC X P c2 k (st' g) (H' g) (R' g)) : JC X P c1 (.seq c2 k) st H R :=
  fun a w ho => h1 _ (fun g hg a w ho => h2 g hg a w ho) a w ho
theorem JE_cut {γ : Type} {I : γ → Prop} {st' : γ → Sto} {H' : γ → List Chunk} {R' : γ → World → Prop} {K : Act → World → Prop} (hK : ∀ g, I g → ∀ a w, Ok X (st' g) (H' g) (R' g) a w → K a w)
    (g : γ) (hI : I g) (hs : StSub st (st' g)) (hH : HSub H (H' g)) (hR : ∀ w, R w → R' g w) : JE X P .normal (.thenP K k) st H R :=
  fun a w ho => hK g hI a w (ho.weak hs hH hR)

/-! Guards. -/
def dstOf (ops : Array Oper) (j : Nat) : Option Nat := (ops[j]?).bind (·.dst)
theorem yielded_of {N : Nat} {a : Act} (hs : StOk N st a) {j d0 : Nat} {b : Bool} (hj : dstOf ops j = some d0) (hb : look st d0 = some (.bool b)) : yielded ops a.tmps j = some b := by
  have h1 := hs.get _ _ hb
  unfold dstOf at hj
  unfold yielded
  rw [hj]
  simp only [Option.bind_some]
  simp only [Array.getD_eq_getD_getElem?] at h1
  cases hq : a.tmps[d0]? with
  | none => rw [hq] at h1; cases h1
  | some v => rw [hq] at h1; simp at h1; rw [h1]
theorem JL_guard {d : Option Nat} {op : Op} {ty : TypeId} {pos : String} {af : Array Edge} {j d0 : Nat} {want b : Bool} (hj : dstOf ops j = some d0) (hb : look st d0 = some (.bool b)) (hw : b = want)
    (h : JL X P ops Q (⟨d, op, ty, pos, af, none⟩ :: rest) st H R) : JL X P ops Q (⟨d, op, ty, pos, af, some (j, want)⟩ :: rest) st H R := by
  intro a w ho
  have hy := yielded_of ho.st hj hb
  have h1 := h a w ho
  rw [wpListIn, if_pos (by simp [Region.wanted])] at h1
  rw [wpListIn, if_pos (by simp [Region.wanted, hy, hw])]
  exact h1
theorem JL_skip {d : Nat} {op : Op} {ty : TypeId} {pos : String} {af : Array Edge} {j d0 : Nat} {want b : Bool} (hj : dstOf ops j = some d0) (hb : look st d0 = some (.bool b)) (hw : b = !want) (hN : Nat.blt d X.N = true)
    (h : JL X P ops Q rest ((d, undef) :: st) H R) : JL X P ops Q (⟨some d, op, ty, pos, af, some (j, want)⟩ :: rest) st H R := by
  intro a w ⟨hs, M, Ds, hd, hm⟩
  have hy := yielded_of hs hj hb
  have := h (a.put (some d) undef) w ⟨hs.put (blt_lt hN) _, M, Ds, hd, hm⟩
  rw [wpListIn, if_neg (by simp [Region.wanted, hy, hw])]
  exact ⟨fun f _ => fof_fn _ f, this⟩
theorem JL_cases {b : Bool} (ht : b = true → JL X P ops Q rest st H R) (hf : b = false → JL X P ops Q rest st H R) : JL X P ops Q rest st H R := by
  cases b
  · exact hf rfl
  · exact ht rfl
end
end Go.Proofs.Ytcfhbnfincpehaa
