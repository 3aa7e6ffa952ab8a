/- A range over a function, with the world out of sight. Nothing is asked. -/
import Derived.Test.YtcfhbnfincpehaaJ7
namespace Go.Proofs.Ytcfhbnfincpehaa
open Go.RowKit Go.Shelf

/-- Its blocks are rows of cells. -/
def Chunk.cellish (c : Chunk) : Prop := ∀ w b, c.holds w → c.own b → ∃ o : Obj, w.heap[b]? = some o ∧ o.isCells = true
theorem bx_cellish (b : Nat) (cs : List Value) : (bx b cs).cellish := fun w x h hx => by
  cases hx
  obtain ⟨T, h⟩ := h.now
  exact ⟨_, h, rfl⟩
theorem ow_cellish (v : Value) (T z n : Nat) (xs : List Value) : (ow v T z n xs).cellish := fun w x h hx => by
  rcases h.now.2 with ⟨h2, _⟩ | ⟨g, cap, cur, hv, h3, h4, _⟩
  · have : v.ownBlock = some x := hx
    rw [h2] at this; cases this
  · have : v.ownBlock = some x := hx
    rw [hv] at this
    have e : g = x := by simpa [Value.ownBlock] using this
    subst e
    exact ⟨_, h4, rfl⟩
theorem perm2 {H H1 H2 : List Chunk} (c1 c2 : Chunk) [h1 : Pick H c1 H1] [h2 : Pick H1 c2 H2] : H.Perm ([c1, c2] ++ H2) := h1.perm.trans (h2.perm.cons c1)
theorem perm1 {H H1 : List Chunk} (c1 : Chunk) [h1 : Pick H c1 H1] : H.Perm ([c1] ++ H1) := h1.perm
theorem perm3 {H H1 H2 H3 : List Chunk} (c1 c2 c3 : Chunk) [h1 : Pick H c1 H1] [h2 : Pick H1 c2 H2] [h3 : Pick H2 c3 H3] : H.Perm ([c1, c2, c3] ++ H3) := h1.perm.trans ((perm2 c2 c3).cons c1)
def exitCode : Exit → Option Code
  | .ret => some .ret
  | .exit id => some (.exit id)
  | _ => none
def asgSt : List Tmp → List Value → Sto → Sto
  | p :: ps, v :: vs, st => asgSt ps vs ((p, v) :: st)
  | _, _, st => st
theorem StOk.asg {N : Nat} : ∀ {ps : List Tmp} {vs : List Value} {st : Sto} {t : Array Value}, ps.length = vs.length → (∀ p ∈ ps, p < N) → StOk N st ⟨t, []⟩ → StOk N (asgSt ps vs st) ⟨(ps.zip vs).foldl (fun t (p, v) => t.setIfInBounds p v) t, []⟩
  | [], [], _, _, _, _, h => h
  | p :: ps, v :: vs, st, t, hl, hp, h => by
    have h2 := h.put (hp p (by simp)) v
    exact StOk.asg (ps := ps) (st := (p, v) :: st) (t := t.setIfInBounds p v) (by simpa using hl) (fun q hq => hp q (by simp [hq])) h2
  | [], _ :: _, _, _, hl, _, _ => by simp at hl
  | _ :: _, [], _, _, hl, _, _ => by simp at hl
/-- All that some pieces say. -/
def saysAll : List Chunk → World → Prop
  | [], _ => True
  | c :: l, w => c.says w ∧ saysAll l w
theorem saysAll_iff {l : List Chunk} {w : World} : saysAll l w ↔ ∀ c ∈ l, c.says w := by
  induction l with
  | nil => simp [saysAll]
  | cons c l ih => simp [saysAll, ih]

section
variable {X : Ctx} {P : Program} {st : Sto} {H C D : List Chunk} {R : World → Prop} {k : Kont}
/-- Between the rounds. -/
structure Rounds (w : World) (C Cg : List Chunk) (W : World) : Prop where
  hold : ∀ c ∈ Cg, c.holds W
  dis : Cg.Pairwise fun c d => ∀ b, c.own b → ¬ d.own b
  new : ∀ c ∈ Cg, ∀ b, c.own b → (∃ c' ∈ C, c'.own b) ∨ w.heap.size ≤ b
  mv : Moves (OwnOf C) w W
theorem Rounds.grown {w : World} {Cg : List Chunk} {W W' : World} {row : Option Nat} (h : Rounds w C Cg W) (hc : ∀ c ∈ C, ∀ b, c.own b → b < w.heap.size) (hk : ∀ c ∈ Cg, c.cellish ∨ ∀ b, c.own b → ∃ c' ∈ C, c'.own b)
    (hg : W.grownBy W' row) (hr : ∀ r, row = some r → w.heap.size ≤ r ∧ ∃ o : Obj, W.heap[r]? = some o ∧ o.isCells = false) : Rounds w C Cg W' := by
  refine ⟨fun c hcg => (h.hold c hcg).later hg.size fun b hb => hg.block b ((h.hold c hcg).bd b hb) fun e => ?_, h.dis, h.new, ⟨hg.os.trans h.mv.os, hg.tape.trans h.mv.tape, hg.output.trans h.mv.output, Nat.le_trans h.mv.size hg.size, fun i hi hn => (hg.block i (Nat.lt_of_lt_of_le hi h.mv.size) fun e => ?_).trans (h.mv.block i hi hn)⟩⟩
  · obtain ⟨h1, o, h2, h3⟩ := hr b e.symm
    rcases hk c hcg with hk | hk
    · obtain ⟨o', h4, h5⟩ := hk W b (h.hold c hcg) hb
      rw [h2] at h4; cases h4; rw [h3] at h5; cases h5
    · obtain ⟨c', hc', hb'⟩ := hk b hb
      have := hc c' hc' b hb'; omega
  · have := (hr i e.symm).1; omega

set_option maxHeartbeats 1000000 in
theorem JC_range {α β γ : Type} {g : Operand} {ps : List Tmp} {assign body : Code} {gf : Nat} {lb : Array Value} (hro : X.ro = none) (hX : X.n = 3) (hnd : X.nd = false)
    (hg : opnd st g = some (.func (.func gf) #[] lb)) (eg : ∀ args w, (callFunc gf args).run P w = .ok (.enter gf args) w) (hH : H.Perm (C ++ D))
    (encs : α → List Value) (Sx Sp : List α → Prop) (Nn : Nat) (Ks : List Nat)
    (hseq : ∀ w, saysAll D w → R w → SeqStopsK Fence.wide 2 P gf lb (fun x => (encs x).toArray) (KeptKs Ks) Sx Sp Nn w) (hKs : ∀ b ∈ Ks, ∃ c ∈ D, c.own b)
    (hps : ∀ x, (encs x).length = ps.length) (hpN : ∀ p ∈ ps, p < X.N)
    (I : List α → γ → Prop) (E : Code → List α → γ → Prop) (C0 : γ → List Chunk) (g0 : γ) (hI0 : I [] g0) (hC0 : C0 g0 = C)
    (hold : ∀ pre g, I pre g → ∀ c ∈ C0 g, ∀ b, c.own b → ∃ c' ∈ C, c'.own b)
    (hexit : ∀ cd pre g, E cd pre g → ∀ c ∈ C0 g, c.cellish ∨ ∀ b, c.own b → ∃ c' ∈ C, c'.own b)
    (stA : α → β → Sto) (cA : α → β → List Chunk) (hcA : ∀ x b, ∀ c ∈ cA x b, c.cellish)
    (hassign : ∀ (l : Nat) (x : α) (W : World) (K0 : Act → World → Prop), (∀ b a' W', Ok ⟨1, some l, X.N, W, fun _ => False, fun _ => False, true⟩ (stA x b) (cA x b) KTrue a' W' → K0 a' W') →
      JC ⟨1, some l, X.N, W, fun _ => False, fun _ => False, true⟩ P assign (.thenP K0 (.done fun _ _ _ => False)) (asgSt ps (encs x) st) [] KTrue)
    (hbody : ∀ (l : Nat) (pre : List α) (x : α) (gg : γ) (b : β) (W : World) (K1 : Act → World → Prop) (QX : Exit → Act → World → Prop), I pre gg → pre.length < Nn →
      (∀ g', I (pre ++ [x]) g' → ∀ st' R' a' W', Ok ⟨1, some l, X.N, W, OwnOf (cA x b ++ C0 gg), OwnOf (cA x b ++ C0 gg), true⟩ st' (C0 g') R' a' W' → K1 a' W') →
      (∀ e cd g', exitCode e = some cd → E cd (pre ++ [x]) g' → ∀ st' R' a' W', Ok ⟨1, some l, X.N, W, OwnOf (cA x b ++ C0 gg), OwnOf (cA x b ++ C0 gg), true⟩ st' (C0 g') R' a' W' → QX e a' W') →
      JC ⟨1, some l, X.N, W, OwnOf (cA x b ++ C0 gg), OwnOf (cA x b ++ C0 gg), true⟩ P body (.thenP K1 (.done QX)) (stA x b) (cA x b ++ C0 gg) (KAnd (saysAll D) R))
    (hdone : ∀ xs gg, Sx xs → I xs gg → JE X P .normal k st (C0 gg ++ D) R)
    (hstop : ∀ cd pre gg, Sp pre → E cd pre gg → JC X P cd k st (C0 gg ++ D) R) : JC X P (.rangeFunc g ps.toArray assign body) k st H R := by
  intro a w ⟨hs, M, Ds, hd, hm⟩
  have hF : Fof X.ro = Fence.wide := by rw [hro]; rfl
  have hm := hm.perm hH
  have hCD := List.pairwise_append.1 hm.dis
  have hCb : ∀ c ∈ C, ∀ b, c.own b → b < w.heap.size := fun c hc b hb => (hm.hold c (List.mem_append.2 (.inl hc))).bd b hb
  have hDb : ∀ c ∈ D, ∀ b, c.own b → b < w.heap.size := fun c hc b hb => (hm.hold c (List.mem_append.2 (.inr hc))).bd b hb
  have hDC : ∀ c ∈ D, ∀ b, c.own b → ¬ OwnOf C b := fun c hc b hb ⟨c', hc', hb'⟩ => hCD.2.2 c' hc' c hc b hb' hb
  have hDw : ∀ W, Moves (OwnOf C) w W → ∀ c ∈ D, c.holds W := fun W hW c hc => (hm.hold c (List.mem_append.2 (.inr hc))).later hW.size fun b hb => hW.block b (hDb c hc b hb) (hDC c hc b hb)
  have hCM : ∀ b, OwnOf C b → M b := fun b ⟨c, hc, hb⟩ => hm.own c (List.mem_append.2 (.inl hc)) b hb
  have hKw : ∀ b ∈ Ks, b < w.heap.size ∧ ¬ OwnOf C b := fun b hb => by obtain ⟨c, hc, hcb⟩ := hKs b hb; exact ⟨hDb c hc b hcb, hDC c hc b hcb⟩
  have hsq := hseq w (saysAll_iff.2 fun c hc => (hm.hold c (List.mem_append.2 (.inr hc))).now) hm.r
  have hoC : ∀ pre gg, I pre gg → ∀ c ∈ C0 gg, c.cellish ∨ ∀ b, c.own b → ∃ c' ∈ C, c'.own b := fun pre gg hi c hc => .inr (hold pre gg hi c hc)
  -- behind the loop
  have hback : ∀ (gg : γ) (W : World) (Dm : Nat), Rounds w C (C0 gg) W → (∀ c ∈ C0 gg, c.cellish ∨ ∀ b, c.own b → ∃ c' ∈ C, c'.own b) → w.heap.size ≤ Dm → W.heap[Dm]? = some (.deferred (some [])) →
      Ok X st (C0 gg ++ D) R { a with defers := Mark Dm :: a.defers } W := by
    intro gg W Dm hr hcell hDm hk
    have hlt : Dm < W.heap.size := (Array.getElem?_eq_some_iff.1 hk).1
    have hsw := hm.swap (C' := C0 gg) (R' := fun _ => True) (w' := W) (fun b => M b ∨ OwnOf (C0 gg) b) hr.mv (fun _ h => .inl h)
      (fun b hb => hb.elim .inl fun ⟨c, hc, hcb⟩ => (hr.new c hc b hcb).imp (fun h => hCM b h) id) (fun b hb => hb.elim (fun h => Nat.lt_of_lt_of_le (hm.bd b h) hr.mv.size) fun ⟨c, hc, hcb⟩ => (hr.hold c hc).bd b hcb)
      hr.hold (fun c hc b hb => ⟨.inr ⟨c, hc, hb⟩, hr.new c hc b hb⟩) hr.dis (fun _ _ => trivial)
    have hsw := hsw.know (R' := R) fun _ h => h.2
    have hnoD : ∀ c ∈ C0 gg ++ D, ¬ c.own Dm := by
      intro c hc hb
      rcases List.mem_append.1 hc with hc | hc
      · rcases hcell c hc with h | h
        · obtain ⟨o, h1, h2⟩ := h W Dm (hr.hold c hc) hb
          rw [hk] at h1; cases h1; cases h2
        · obtain ⟨c', hc', hb'⟩ := h Dm hb
          have := hCb c' hc' Dm hb'; omega
      · have := hDb c hc Dm hb; omega
    refine ⟨⟨hs.size, hs.get⟩, fun b => (M b ∨ OwnOf (C0 gg) b) ∨ b = Dm, Dm :: Ds, by simp [hd], ?_⟩
    exact ⟨fun b hb => hb.elim (hsw.bd b) (fun e => e ▸ hlt), hsw.hold, fun c hc b hb => .inl (hsw.own c hc b hb), hsw.fp, hsw.dis,
      fun w' hw => hm.keep w' ((hr.mv.weaken fun i _ hi => hCM i hi).trans hw fun i hi hb => hb.elim (fun h => h.elim id fun ⟨c, hc, hcb⟩ => ((hr.new c hc i hcb).resolve_right (by omega)) |> fun h => hCM i h) (fun e => by omega)),
      hsw.mv, fun b hb => .inl (hsw.m0 b hb), fun b hb => hb.elim (hsw.m1 b) (fun e => .inr (by have := hm.mv.size; omega)), hm.mks.push hsw.mks hDm (Nat.le_trans hm.mv.size hDm) hk,
      fun x hx => (List.mem_cons.1 hx).elim (fun e => .inr e) (fun h => .inl (hsw.mkM x h)), fun x hx c hc => (List.mem_cons.1 hx).elim (fun e => e ▸ hnoD c hc) (fun h => hsw.mkH x h c hc), hm.m2, fun h => by rw [hnd] at h; cases h⟩
  have key := wpIn_rangeFunc_ownH (F := Fence.wide) (n := 3) (P := P) (a := a) (w := w) (assign := assign) (body := body) (Q := kden X P k) (ps := ps.toArray) rfl (by omega) (hs.eval hg) trivial eg hsq (fun h1 h2 b hb => (h2 b hb).trans (h1 b hb))
    (fun W l o o' hl _ _ _ b hb => World.putObj_heap_other (by have := (hKw b hb).1; omega)) (Below.refl _ _) (fun x => by simp [hps])
    (fun pre W => ∃ gg, I pre gg ∧ Rounds w C (C0 gg) W) (fun cd pre W => ∃ gg, E cd pre gg ∧ Rounds w C (C0 gg) W)
    (fun pre A B row ⟨gg, hi, hr⟩ hgr hrow => ⟨gg, hi, hr.grown hCb (hoC pre gg hi) hgr hrow⟩)
    (fun cd pre A B row ⟨gg, hi, hr⟩ hgr hrow => ⟨gg, hi, hr.grown hCb (hexit cd pre gg hi) hgr hrow⟩)
    ⟨g0, hI0, by rw [hC0]; exact ⟨fun c hc => hm.hold c (List.mem_append.2 (.inl hc)), hCD.1, fun c hc b hb => .inl ⟨c, hc, hb⟩, Moves.refl w⟩⟩
    (fun x a' W => ∃ b, StOk X.N (stA x b) a' ∧ a'.defers = [] ∧ (∀ c ∈ cA x b, c.holds W ∧ ∀ i, c.own i → w.heap.size ≤ i) ∧ (cA x b).Pairwise fun (c d : Chunk) => ∀ i : Nat, c.own i → ¬ d.own i)
    (fun x a' _ A B row ⟨b, h1, h2, h3, h4⟩ hgr hrow => ⟨b, h1, h2, fun c hc => ⟨(h3 c hc).1.later hgr.size fun i hi => hgr.block i ((h3 c hc).1.bd i hi) fun e => by
        obtain ⟨_, o, h5, h6⟩ := hrow i e.symm
        obtain ⟨o', h7, h8⟩ := hcA x b c hc A i (h3 c hc).1 hi
        rw [h5] at h7; cases h7; rw [h6] at h8; exact absurd h8 (by simp), (h3 c hc).2⟩, h4⟩)
    ?_ ?_ ?_ ?_
  · show (Code.rangeFunc g ps.toArray assign body).wpIn (Fof X.ro) X.n P (kden X P k) a w
    rw [hF, hX]; exact key
  · rintro l pre x W K ⟨gg, hi, hr⟩ hK
    refine hassign l x W K (fun b a' W' ho => ?_) _ W ⟨?_, fun _ => False, [], rfl, ?_⟩
    · obtain ⟨h1, M', Ds', h2, h3⟩ := ho
      have hmv : Moves (fun _ => False) W W' := h3.mv
      have hDs : Ds' = [] := h3.mk0 rfl
      refine hK a' W' ⟨hmv.size, fun i o _ hio _ => (hmv.block i (Array.getElem?_eq_some_iff.1 hio).1 (fun h => h)).trans hio⟩ (fun b hb => hmv.block b (Nat.lt_of_lt_of_le (hKw b hb).1 hr.mv.size) (fun h => h))
        ⟨gg, hi, fun c hc => (hr.hold c hc).later hmv.size fun b hb => hmv.block b ((hr.hold c hc).bd b hb) (fun h => h), hr.dis, hr.new, hr.mv.trans hmv (fun _ _ h => h.elim)⟩
        ⟨b, h1, by rw [h2, hDs]; rfl, fun c hc => ⟨h3.hold c hc, fun i hci => ?_⟩, h3.dis⟩
      have := (h3.fp c hc i hci).resolve_left (fun h => h)
      exact Nat.le_trans hr.mv.size this
    · have := StOk.asg (N := X.N) (ps := ps) (vs := encs x) (st := st) (t := a.tmps) (hps x).symm hpN ⟨hs.size, hs.get⟩
      simpa using this
    · exact ⟨fun _ h => h.elim, by simp, by simp, by simp, .nil, fun _ _ => trivial, Moves.refl W, fun _ h => h, fun _ h => h.elim, MarksIn.nil _ _, by simp, by simp, fun _ h => h.elim, fun _ => rfl⟩
  · rintro l pre x a' W hl hlo ⟨gg, hi, hr⟩ ⟨b, h1, h2, h3, h4⟩ hlen
    have hown : ∀ c ∈ cA x b ++ C0 gg, c.holds W := fun c hc => (List.mem_append.1 hc).elim (fun h => (h3 c h).1) (hr.hold c)
    have hMw : ∀ w', Moves (OwnOf (cA x b ++ C0 gg)) W w' → Moves (OwnOf C) w w' := fun w' hw => hr.mv.trans hw fun i hlt ⟨c, hc, hci⟩ => by
      rcases List.mem_append.1 hc with hc | hc
      · have := (h3 c hc).2 i hci; omega
      · exact hold pre gg hi c hc i hci
    have hfin : ∀ (g' : γ) (R' : World → Prop) (st' : Sto) (a2 : Act) (W' : World), Ok ⟨1, some l, X.N, W, OwnOf (cA x b ++ C0 gg), OwnOf (cA x b ++ C0 gg), true⟩ st' (C0 g') R' a2 W' →
        KeepsFrom w.heap.size W W' ∧ KeptKs Ks W W' ∧ Rounds w C (C0 g') W' := by
      rintro g' R' st' a2 W' ⟨_, M', Ds', _, h6⟩
      have hmv : Moves (OwnOf (cA x b ++ C0 gg)) W W' := h6.mv
      refine ⟨⟨hmv.size, fun i o hB hio ho => (hmv.block i (Array.getElem?_eq_some_iff.1 hio).1 fun ⟨c, hc, hci⟩ => ?_).trans hio⟩, fun q hq => hmv.block q (Nat.lt_of_lt_of_le (hKw q hq).1 hr.mv.size) fun ⟨c, hc, hci⟩ => ?_, h6.hold, h6.dis, fun c hc i hci => ?_, hMw W' hmv⟩
      · rcases List.mem_append.1 hc with hc | hc
        · obtain ⟨o', h7, h8⟩ := hcA x b c hc W i (h3 c hc).1 hci
          rw [hio] at h7; cases h7; rw [ho] at h8; cases h8
        · obtain ⟨c', hc', hb'⟩ := hold pre gg hi c hc i hci
          have := hCb c' hc' i hb'; omega
      · have hlt := (hKw q hq).1
        rcases List.mem_append.1 hc with hc | hc
        · have := (h3 c hc).2 q hci; omega
        · exact (hKw q hq).2 (hold pre gg hi c hc q hci)
      · rcases h6.fp c hc i hci with ⟨c1, hc1, hi1⟩ | h7
        · rcases List.mem_append.1 hc1 with hc1 | hc1
          · exact .inr ((h3 c1 hc1).2 i hi1)
          · exact .inl (hold pre gg hi c1 hc1 i hi1)
        · exact .inr (Nat.le_trans hr.mv.size h7)
    refine wpIn_mono (hbody l pre x gg b W (fun a2 W' => KeepsFrom w.heap.size W W' ∧ KeptKs Ks W W' ∧ ∃ g', I (pre ++ [x]) g' ∧ Rounds w C (C0 g') W')
      (fun e a2 W' => ∃ cd, exitCode e = some cd ∧ KeepsFrom w.heap.size W W' ∧ ∃ g', E cd (pre ++ [x]) g' ∧ Rounds w C (C0 g') W') hi hlen
      (fun g' hi' st' R' a2 W' ho => ⟨(hfin g' R' st' a2 W' ho).1, (hfin g' R' st' a2 W' ho).2.1, g', hi', (hfin g' R' st' a2 W' ho).2.2⟩)
      (fun e cd g' he hE st' R' a2 W' ho => ⟨cd, he, (hfin g' R' st' a2 W' ho).1, g', hE, (hfin g' R' st' a2 W' ho).2.2⟩) a' W ⟨h1, OwnOf (cA x b ++ C0 gg), [], h2, ?_⟩) ?_
    · refine ⟨fun i ⟨c, hc, hci⟩ => (hown c hc).bd i hci, hown, fun c hc i hci => ⟨c, hc, hci⟩, fun c hc i hci => .inl ⟨c, hc, hci⟩, List.pairwise_append.2 ⟨h4, hr.dis, fun c hc c' hc' i hci hci' => ?_⟩,
        fun w' hw => ⟨saysAll_iff.2 fun c hc => (hDw w' (hMw w' hw) c hc).now, hm.keep w' ((hMw w' hw).weaken fun i _ hi => hCM i hi)⟩, Moves.refl W, fun _ h => h, fun _ h => .inl h, MarksIn.nil _ _, by simp, by simp, fun i ⟨c, hc, hci⟩ => (hown c hc).bd i hci, fun _ => rfl⟩
      have h7 := (h3 c hc).2 i hci
      obtain ⟨c1, hc1, hi1⟩ := hold pre gg hi c' hc' i hci'
      have := hCb c1 hc1 i hi1; omega
    · intro e a2 W' hq
      cases e with
      | normal => exact hq
      | ret => obtain ⟨cd, he, h5, g', h6, h7⟩ := hq; cases he; exact ⟨h5, g', h6, h7⟩
      | exit id => obtain ⟨cd, he, h5, g', h6, h7⟩ := hq; cases he; exact ⟨h5, g', h6, h7⟩
      | goto t => obtain ⟨cd, he, _⟩ := hq; cases he
      | panic _ => obtain ⟨cd, he, _⟩ := hq; cases he
      | outgrown => obtain ⟨cd, he, _⟩ := hq; cases he
  · rintro Dm xs W hDm hS ⟨gg, hi, hr⟩ hk
    exact hdone xs gg hS hi _ W (hback gg W Dm hr (hoC xs gg hi) hDm hk)
  · rintro Dm cd pre W hDm hS ⟨gg, he, hr⟩ hk
    have := hstop cd pre gg hS he _ W (hback gg W Dm hr (hexit cd pre gg he) hDm hk)
    rw [hF, hX] at this; exact this
end
end Go.Proofs.Ytcfhbnfincpehaa
