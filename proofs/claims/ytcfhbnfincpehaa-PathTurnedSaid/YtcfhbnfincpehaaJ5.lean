/- Regions whose order is open: what only reads goes first, what makes or calls goes where nothing else can. Nothing is asked. -/
import Derived.Test.YtcfhbnfincpehaaJ4
import Derived.OrdersIn
import Derived.OrdersHeld
namespace Go.Proofs.Ytcfhbnfincpehaa
open Go.RowKit Go.Shelf

section
variable {F : Fence} {n : Nat} {P : Program} {ops : Array Oper} {Q : Exit → Act → World → Prop} {S : World → Prop}
/-- No select, no deferred call. -/
def plainOps (ops : Array Oper) : Bool := ops.all fun o => match o.op with | .select .. => false | .defer _ => false | _ => true
theorem plainOps_spec (h : plainOps ops = true) {j : Nat} {o : Oper} (ho : ops[j]? = some o) : (∀ cs b, o.op ≠ .select cs b) ∧ (∀ c, o.op ≠ .defer c) := by
  obtain ⟨hj, rfl⟩ := Array.getElem?_eq_some_iff.1 ho
  have := Array.all_eq_true.1 h j hj
  constructor
  · intro cs b e; simp [e] at this
  · intro c e; simp [e] at this
theorem semAt_any {ro : Option Nat} {ρ : Operand → Value} {o : Oper} (h : ∀ c, o.op ≠ .defer c) : Oper.semAt ro ρ o = execOp ρ o := by
  cases ro with
  | none => rfl
  | some l => exact Oper.semAt_some l ρ o h
theorem yieldsIf_wpOpIn {i : Nat} {o : Oper} {v : Value} {a : Act} (hF : ∀ f, F.fn f) (hnd : ∀ c, o.op ≠ .defer c) (hi : ops[i]? = some o) (hy : YieldsIf P ops S o v a)
    {K : Act → World → Prop} {w : World} (hS : S w) (h : K (a.put o.dst v) w) : wpOpIn F n P ops Q i K a w := by
  unfold Go.wpOpIn
  simp only [hi]
  rcases hy with ⟨hw, hv⟩ | ⟨hw, rfl⟩
  · simp only [hw, if_true, Oper.wpIn, semAt_any hnd, hv w hS, Oper.uponIn]; exact ⟨fun f _ => hF f, h⟩
  · simp only [hw, Bool.false_eq_true, if_false]; exact ⟨fun f _ => hF f, h⟩
theorem wpOpIn_putIf {j : Nat} {oi oj : Oper} {v : Value} (hF : ∀ f, F.fn f) (hj : ops[j]? = some oj) (hap : oi.apart ops oj = true)
    (hsi : ∀ cs b, oi.op ≠ .select cs b) (hsj : ∀ cs b, oj.op ≠ .select cs b) (hnd : ∀ c, oj.op ≠ .defer c)
    (hQ : ∀ c a w, Q (.panic c) (a.put oi.dst v) w → Q (.panic c) a w) {K : Act → World → Prop} {a : Act} {w : World}
    (hy : YieldsIf P ops S oi v a) (h : wpOpIn F n P ops Q j K (a.put oi.dst v) w) :
    wpOpIn F n P ops Q j (fun a' w' => YieldsIf P ops S oi v a' ∧ K (a'.put oi.dst v) w') a w := by
  obtain ⟨h1, h2, h3⟩ := Oper.apart_spec hap
  have keep : ∀ (a : Act), YieldsIf P ops S oi v a → ∀ u, YieldsIf P ops S oi v (a.put oj.dst u) := fun a hy u =>
    hy.of_same (execOp_put oi hsi a oj.dst u h3) (wanted_put oi a oj.dst u h3)
  unfold Go.wpOpIn at *
  simp only [hj] at *
  rw [wanted_put oj a oi.dst v h1] at h
  split
  · rename_i hw
    simp only [hw, if_true] at h
    unfold Oper.wpIn at *
    refine ⟨fun f _ => hF f, ?_⟩
    have h := h.2
    rw [semAt_any hnd, execOp_put oj hsj a oi.dst v h1] at h
    rw [semAt_any hnd]
    generalize (execOp a.eval oj).run P w = r at *
    cases r with
    | ok x w' =>
      cases x <;> simp only [Oper.uponIn] at h ⊢
      case value u => exact ⟨keep a hy u, by rw [← Act.put_comm a v u h2]; exact h⟩
      case skip => exact ⟨keep a hy _, by rw [← Act.put_comm a v undef h2]; exact h⟩
      case defer d =>
        refine ⟨keep { a with defers := d :: a.defers } (hy.of_same rfl rfl) _, ?_⟩
        rw [← Act.put_comm _ v undef h2, ← Act.put_defers]
        exact h
      case enter f args =>
        refine ⟨h.1, CallsIn.mono h.2 fun e w'' he => ?_⟩
        cases e with
        | returned u => exact ⟨keep a hy u, by rw [← Act.put_comm a v u h2]; exact he⟩
        | panicked c => exact hQ _ _ _ he
        | outgrown => exact he
      case row row args => exact ⟨h.1, RowsIn.mono h.2 fun u w'' he => ⟨keep a hy u, by rw [← Act.put_comm a v u h2]; exact he⟩⟩
      case round l f tmps assign body =>
        refine ⟨h.1, RoundIn.mono h.2 fun e w'' he => ?_⟩
        cases e with
        | returned u => exact ⟨keep a hy u, by rw [← Act.put_comm a v u h2]; exact he⟩
        | panicked c => exact hQ _ _ _ he
        | outgrown => exact he
    | halt x w' =>
      cases x <;> simp only [Oper.uponIn] at h ⊢
      case panic u => exact hQ _ _ _ h
  · rename_i hw
    simp only [hw] at h
    exact ⟨fun f _ => hF f, keep a hy _, by rw [← Act.put_comm a v undef h2]; exact h.2⟩

/-- Whatever order is picked, and S holds until one of the tail has come. -/
def upTo (tl : List Nat) (S : World → Prop) (listed : Array Bool) (w : World) : Prop := (∃ t ∈ tl, listed.getD t false = true) ∨ S w
def wpAnyHI (F : Fence) (n : Nat) (P : Program) (ops : Array Oper) (Q : Exit → Act → World → Prop) (S : World → Prop) (tl : List Nat) : Nat → Array Bool → Act → World → Prop
  | 0, listed, a, w => Region.ready .any ops listed = [] ∧ Q .normal a w
  | fuel + 1, listed, a, w =>
    (Region.ready .any ops listed = [] → Q .normal a w) ∧
    ∀ i ∈ Region.ready .any ops listed, wpOpIn F n P ops Q i (fun a' w' => upTo tl S (listed.setIfInBounds i true) w' ∧ wpAnyHI F n P ops Q S tl fuel (listed.setIfInBounds i true) a' w') a w
theorem wpAnyIn_of_HI {tl : List Nat} : ∀ (fuel : Nat) (listed : Array Bool) (a : Act) (w : World), wpAnyHI F n P ops Q S tl fuel listed a w → wpAnyIn F n P .any ops Q fuel listed a w
  | 0, _, _, _, h => h
  | fuel + 1, _, _, _, h => ⟨h.1, fun i hi => wpOpIn_mono (fun a' w' h' => wpAnyIn_of_HI fuel _ a' w' h'.2) (h.2 i hi)⟩
theorem upTo.set {tl : List Nat} {listed : Array Bool} {w : World} (h : upTo tl S listed w) (i : Nat) : upTo tl S (listed.setIfInBounds i true) w :=
  h.imp (fun ⟨t, h1, h2⟩ => ⟨t, h1, getD_set_true h2⟩) id
theorem upTo.unset {tl : List Nat} {listed : Array Bool} {w : World} {i : Nat} (hi : i ∉ tl) (h : upTo tl S (listed.setIfInBounds i true) w) : upTo tl S listed w :=
  h.imp (fun ⟨t, h1, h2⟩ => ⟨t, h1, by rwa [getD_set_ne false (by rintro rfl; exact hi h1)] at h2⟩) id
theorem wpAnyHI_first {i : Nat} {oi : Oper} {v : Value} {tl : List Nat} {S' : World → Prop} {G : Array Bool → Prop} (hF : ∀ f, F.fn f) (hi : ops[i]? = some oi) (hp : plainOps ops = true)
    (hQ : ∀ c a w, Q (.panic c) (a.put oi.dst v) w → Q (.panic c) a w) (hti : i ∉ tl)
    (hG : ∀ listed j oj, G listed → j ∈ Region.ready .any ops listed → ops[j]? = some oj → (∀ e ∈ oj.after, Region.binds .any e = true → e.on ≠ i) → G (listed.setIfInBounds j true))
    (hGS : ∀ listed w', G listed → upTo tl S listed w' → S' w') :
    ∀ (fuel : Nat) (listed : Array Bool) (a : Act) (w : World),
      (∀ j oj, ops[j]? = some oj → j ≠ i → listed.getD j true = false → (∀ e ∈ oj.after, Region.binds .any e = true → e.on ≠ i) → oi.apart ops oj = true) →
      i ∈ Region.ready .any ops listed → YieldsIf P ops S' oi v a → G listed → upTo tl S listed w →
      wpAnyHI F n P ops Q S tl fuel (listed.setIfInBounds i true) (a.put oi.dst v) w → wpAnyHI F n P ops Q S tl (fuel + 1) listed a w := by
  intro fuel
  induction fuel with
  | zero =>
    intro listed a w _ hr hy hg hu H
    refine ⟨fun h => (by rw [h] at hr; cases hr), fun j hj => ?_⟩
    by_cases hji : j = i
    · subst hji; exact yieldsIf_wpOpIn hF (plainOps_spec hp hi).2 hi hy (hGS _ w hg hu) ⟨hu.set _, H⟩
    · have := ready_mono hj hji
      rw [H.1] at this
      cases this
  | succ fuel ih =>
    intro listed a w hfree hr hy hg hu H
    refine ⟨fun h => (by rw [h] at hr; cases hr), fun j hj => ?_⟩
    by_cases hji : j = i
    · subst hji; exact yieldsIf_wpOpIn hF (plainOps_spec hp hi).2 hi hy (hGS _ w hg hu) ⟨hu.set _, H⟩
    · have h1 := H.2 j (ready_mono hj hji)
      obtain ⟨hjun, oj, hoj, hall⟩ := mem_ready.1 hj
      have hnot : ∀ e ∈ oj.after, Region.binds .any e = true → e.on ≠ i := fun e he hb heq => by
        have h1 := hall e he hb
        have h0 := (mem_ready.1 hr).1
        rw [heq] at h1
        rcases Nat.lt_or_ge i listed.size with h' | h'
        · simp [h'] at h0 h1; rw [h0] at h1; cases h1
        · simp [Array.getElem?_eq_none h'] at h1
      have h2 := wpOpIn_putIf hF hoj (hfree j oj hoj hji hjun hnot) (plainOps_spec hp hi).1 (plainOps_spec hp hoj).1 (plainOps_spec hp hoj).2 hQ hy h1
      have hfree' : ∀ k ok, ops[k]? = some ok → k ≠ i → (listed.setIfInBounds j true).getD k true = false →
          (∀ e ∈ ok.after, Region.binds .any e = true → e.on ≠ i) → oi.apart ops ok = true := fun k ok hk hki hun hno => by
        refine hfree k ok hk hki ?_ hno
        by_cases hjk : j = k
        · subst hjk; exact hjun
        · rw [getD_set_ne true hjk] at hun; exact hun
      refine wpOpIn_mono (fun a' w' h3 => ?_) h2
      have h4 := h3.2.1
      rw [Array.setIfInBounds_comm _ _ (Ne.symm hji)] at h4
      have h5 := h4.unset hti
      refine ⟨h5, ih (listed.setIfInBounds j true) a' w' hfree' (ready_mono hr (Ne.symm hji)) h3.1 (hG _ _ _ hg hj hoj hnot) h5 ?_⟩
      rw [Array.setIfInBounds_comm _ _ hji]
      exact h3.2.2
end

/-- A way out that is no panic. -/
def NoPan (Q : Exit → Act → World → Prop) : Exit → Act → World → Prop
  | .panic _, _, _ => False
  | e, a, w => Q e a w
section
variable {X : Ctx} {P : Program} {st : Sto} {H H0 : List Chunk} {R R0 : World → Prop} {k : Kont} {ops : Array Oper} {fuel : Nat} {listed : Array Bool} {tl : List Nat}
/-- What stays so throughout the region. -/
def Stays (X : Ctx) (H0 : List Chunk) (R0 : World → Prop) (w : World) : Prop := ∃ M Ds, Mem X M Ds H0 R0 w
/-- The operations that are not listed yet, in whatever order, ahead of the tail; and behind it. -/
def JA (X : Ctx) (P : Program) (ops : Array Oper) (k : Kont) (tl : List Nat) (H0 : List Chunk) (R0 : World → Prop) (fuel : Nat) (listed : Array Bool) (st : Sto) (H : List Chunk) (R : World → Prop) : Prop :=
  (HSub H H0 ∧ ∀ w, R w → R0 w) → ∀ a w, Ok X st H R a w → wpAnyHI (Fof X.ro) X.n P ops (NoPan (kden X P k)) (Stays X H0 R0) tl fuel listed a w
def JT (X : Ctx) (P : Program) (ops : Array Oper) (k : Kont) (tl : List Nat) (H0 : List Chunk) (R0 : World → Prop) (fuel : Nat) (listed : Array Bool) (st : Sto) (H : List Chunk) (R : World → Prop) : Prop :=
  (∃ t ∈ tl, listed.getD t false = true) → ∀ a w, Ok X st H R a w → wpAnyHI (Fof X.ro) X.n P ops (NoPan (kden X P k)) (Stays X H0 R0) tl fuel listed a w
theorem Ok.stays {a : Act} {w : World} (h : Ok X st H R a w) (hs : HSub H H0 ∧ ∀ w, R w → R0 w) : Stays X H0 R0 w := by
  obtain ⟨_, M, Ds, _, hm⟩ := h.weak (st2 := st) stsub_refl hs.1 hs.2
  exact ⟨M, Ds, hm⟩
theorem Ok.drawn {a : Act} {w : World} (h : Ok X st H R a w) : Ok X st H R a { w with drawn := w.drawn + 1 } := by
  obtain ⟨h1, M, Ds, h2, h3⟩ := h
  have hmv : Moves (fun _ => False) w { w with drawn := w.drawn + 1 } := (Moves.refl w).drew
  have := h3.swap (C := []) (D := H) (C' := []) (R' := fun _ => True) (w' := { w with drawn := w.drawn + 1 }) M (hmv.weaken fun _ _ h => h.elim) (fun _ h => h) (fun _ h => .inl h) (fun b hb => h3.bd b hb) (by simp) (by simp) (by simp) (fun _ _ => trivial)
  exact ⟨h1, M, Ds, h2, this.know fun _ h => h.2⟩
theorem JC_draw (tl : List Nat) {id : Nat} {l : List Oper} (hm : P.follows .mixedOrders = true) (h : JA X P l.toArray k tl H R l.length (Array.replicate l.length false) st H R) : JC X P (.region id l.toArray true) k st H R := by
  intro a w ho
  refine wpIn_mono (Q' := kden X P k) (wpIn_region_any (Q := NoPan (kden X P k)) hm ?_) (fun e a w hq => by cases e <;> first | exact hq | exact hq.elim)
  have := wpAnyIn_of_HI _ _ _ _ (h ⟨hsub_refl, fun _ h => h⟩ a _ ho.drawn)
  simpa using this
theorem JA_done (hr : Region.ready .any ops listed = []) (h : JE X P .normal k st H R) : JA X P ops k tl H0 R0 fuel listed st H R := by
  intro _ a w ho
  cases fuel with
  | zero => exact ⟨hr, h a w ho⟩
  | succ f => exact ⟨fun _ => h a w ho, by rw [hr]; simp⟩
theorem JT_done (hr : Region.ready .any ops listed = []) (h : JE X P .normal k st H R) : JT X P ops k tl H0 R0 fuel listed st H R := by
  intro _ a w ho
  cases fuel with
  | zero => exact ⟨hr, h a w ho⟩
  | succ f => exact ⟨fun _ => h a w ho, by rw [hr]; simp⟩
/-- Who waits for i, straight or by others. -/
def waiters (ops : Array Oper) (i : Nat) : List Bool :=
  ops.toList.foldl (fun W o => W ++ [o.after.any fun e => Region.binds .any e && (Nat.beq e.on i || W.getD e.on false)]) []
/-- Nobody of the tail has come, and all of it waits for i. -/
def tailWaits (ops : Array Oper) (tl : List Nat) (listed : Array Bool) (i : Nat) : Bool :=
  let W := waiters ops i
  tl.all (fun t => W.getD t false) && (List.range ops.size).all (fun j => !W.getD j false || (!listed.getD j false && match ops[j]? with | some o => o.after.any (fun e => Region.binds .any e && (Nat.beq e.on i || W.getD e.on false)) | none => false)) && Nat.beq W.length ops.size
theorem tailWaits_spec {ops : Array Oper} {tl : List Nat} {listed : Array Bool} {i : Nat} (h : tailWaits ops tl listed i = true) : ∃ W : Nat → Bool, (∀ t ∈ tl, W t = true) ∧ ∀ j, W j = true → listed.getD j false = false ∧ ∃ o, ops[j]? = some o ∧ ∃ e ∈ o.after, Region.binds .any e = true ∧ (e.on = i ∨ W e.on = true) := by
  simp only [tailWaits, Bool.and_eq_true] at h
  refine ⟨fun j => (waiters ops i).getD j false, fun t ht => List.all_eq_true.1 h.1.1 t ht, fun j hj => ?_⟩
  have hj : (waiters ops i).getD j false = true := hj
  have hlt : j < ops.size := by
    rw [← Nat.eq_of_beq_eq_true h.2]
    rcases Nat.lt_or_ge j (waiters ops i).length with h' | h'
    · exact h'
    · rw [List.getD_eq_getElem?_getD, List.getElem?_eq_none h'] at hj; cases hj
  have := List.all_eq_true.1 h.1.2 j (List.mem_range.2 hlt)
  rw [hj] at this
  simp only [Bool.not_true, Bool.false_or, Bool.and_eq_true, Bool.not_eq_true'] at this
  refine ⟨this.1, ?_⟩
  cases ho : ops[j]? with
  | none => rw [ho] at this; cases this.2
  | some o =>
    rw [ho] at this
    obtain ⟨e, he, hb⟩ := Array.any_eq_true'.1 this.2
    simp only [Bool.and_eq_true, Bool.or_eq_true] at hb
    exact ⟨o, rfl, e, he, hb.1, hb.2.imp Nat.eq_of_beq_eq_true id⟩
/-- The checks that let an operation go first. -/
def mayGo (ops : Array Oper) (listed : Array Bool) (i : Nat) : Bool := plainOps ops && Region.free .any ops listed i && (Region.ready .any ops listed).contains i
theorem ja_first {i d : Nat} {o : Oper} {v : Value} (hi : ops[i]? = some o) (hd : o.dst = some d) (hgo : mayGo ops listed i = true) (ht : tailWaits ops tl listed i = true) (hit : i ∉ tl) (hN : Nat.blt d X.N = true)
    (h : ∀ a, StOk X.N st a → YieldsIf P ops (Stays X H0 R0) o v a) (hn : JA X P ops k tl H0 R0 fuel (listed.setIfInBounds i true) ((d, v) :: st) H R) : JA X P ops k tl H0 R0 (fuel + 1) listed st H R := by
  intro hs a w ho
  simp only [mayGo, Bool.and_eq_true] at hgo
  obtain ⟨W, hW1, hW2⟩ := tailWaits_spec ht
  refine wpAnyHI_first (v := v) (S' := Stays X H0 R0) (G := fun l => ∀ j, W j = true → l.getD j false = false) (fof_fn _) hi hgo.1.1 (fun _ _ _ h => h) hit ?_ ?_ fuel listed a w (Region.free_spec hi hgo.1.2) (by simpa using hgo.2) (h a ho.st) ?_ (.inr (ho.stays hs)) ?_
  · intro l j oj hg hrd hj hno t htt
    by_cases e : j = t
    · subst e
      obtain ⟨_, o, ho2, e, he, hb, hc⟩ := hW2 j htt
      rw [hj] at ho2
      cases ho2
      rcases hc with hc | hc
      · exact absurd hc (hno e he hb)
      · have h1 := hg _ hc
        obtain ⟨_, oj', hoj', hall⟩ := mem_ready.1 hrd
        rw [hj] at hoj'; cases hoj'
        have h2 := hall e he hb
        rw [h1] at h2; cases h2
    · rw [getD_set_ne false e]; exact hg t htt
  · rintro l w' hg (⟨t, h1, h2⟩ | h2)
    · rw [hg t (hW1 t h1)] at h2; cases h2
    · exact h2
  · intro j hj; exact (hW2 j hj).1
  · obtain ⟨h1, M, Ds, h2, h3⟩ := ho
    exact hn hs _ w ⟨by rw [hd]; exact h1.put (blt_lt hN) v, M, Ds, by rw [hd]; exact h2, h3⟩
theorem ja_firstP {i d : Nat} {o : Oper} {v : Value} (hi : ops[i]? = some o) (hd : o.dst = some d) (hgo : mayGo ops listed i = true) (hit : i ∉ tl) (hN : Nat.blt d X.N = true)
    (h : ∀ a, StOk X.N st a → YieldsIf P ops (fun _ => True) o v a) (hn : JA X P ops k tl H0 R0 fuel (listed.setIfInBounds i true) ((d, v) :: st) H R) : JA X P ops k tl H0 R0 (fuel + 1) listed st H R := by
  intro hs a w ho
  simp only [mayGo, Bool.and_eq_true] at hgo
  refine wpAnyHI_first (v := v) (S' := fun _ => True) (G := fun _ => True) (fof_fn _) hi hgo.1.1 (fun _ _ _ h => h) hit (fun _ _ _ _ _ _ _ => trivial) (fun _ _ _ _ => trivial) fuel listed a w (Region.free_spec hi hgo.1.2) (by simpa using hgo.2) (h a ho.st) trivial (.inr (ho.stays hs)) ?_
  obtain ⟨h1, M, Ds, h2, h3⟩ := ho
  exact hn hs _ w ⟨by rw [hd]; exact h1.put (blt_lt hN) v, M, Ds, by rw [hd]; exact h2, h3⟩
theorem jt_firstP {i d : Nat} {o : Oper} {v : Value} (hi : ops[i]? = some o) (hd : o.dst = some d) (hgo : mayGo ops listed i = true) (hit : i ∉ tl) (hN : Nat.blt d X.N = true)
    (h : ∀ a, StOk X.N st a → YieldsIf P ops (fun _ => True) o v a) (hn : JT X P ops k tl H0 R0 fuel (listed.setIfInBounds i true) ((d, v) :: st) H R) : JT X P ops k tl H0 R0 (fuel + 1) listed st H R := by
  intro hs a w ho
  simp only [mayGo, Bool.and_eq_true] at hgo
  refine wpAnyHI_first (v := v) (S' := fun _ => True) (G := fun _ => True) (fof_fn _) hi hgo.1.1 (fun _ _ _ h => h) hit (fun _ _ _ _ _ _ _ => trivial) (fun _ _ _ _ => trivial) fuel listed a w (Region.free_spec hi hgo.1.2) (by simpa using hgo.2) (h a ho.st) trivial (.inl hs) ?_
  obtain ⟨h1, M, Ds, h2, h3⟩ := ho
  exact hn (hs.elim fun t ht => ⟨t, ht.1, getD_set_true ht.2⟩) _ w ⟨by rw [hd]; exact h1.put (blt_lt hN) v, M, Ds, by rw [hd]; exact h2, h3⟩

section
variable {i d : Nat} {op : Op} {ty : TypeId} {pos : String} {af : Array Edge} {v : Value} {j d0 : Nat} {want b : Bool}
theorem JA_dt (hi : ops[i]? = some ⟨some d, op, ty, pos, af, none⟩) (hgo : mayGo ops listed i = true) (ht : tailWaits ops tl listed i = true) (hit : tl.contains i = false) (hN : Nat.blt d X.N = true)
    (h : Det X P ⟨some d, op, ty, pos, af, none⟩ st H0 R0 v) (hn : JA X P ops k tl H0 R0 fuel (listed.setIfInBounds i true) ((d, v) :: st) H R) : JA X P ops k tl H0 R0 (fuel + 1) listed st H R :=
  ja_first hi rfl hgo ht (by simpa using hit) hN (fun a hs => .inl ⟨by simp [Region.wanted], fun w' ⟨M, Ds, hm⟩ => h a w' M Ds hs hm⟩) hn
theorem JA_pd (hi : ops[i]? = some ⟨some d, op, ty, pos, af, none⟩) (hgo : mayGo ops listed i = true) (hit : tl.contains i = false) (hN : Nat.blt d X.N = true)
    (h : PDet P ⟨some d, op, ty, pos, af, none⟩ st v) (hn : JA X P ops k tl H0 R0 fuel (listed.setIfInBounds i true) ((d, v) :: st) H R) : JA X P ops k tl H0 R0 (fuel + 1) listed st H R :=
  ja_firstP hi rfl hgo (by simpa using hit) hN (fun a hs => .inl ⟨by simp [Region.wanted], fun w' _ => h _ a w' hs⟩) hn
theorem JT_pd (hi : ops[i]? = some ⟨some d, op, ty, pos, af, none⟩) (hgo : mayGo ops listed i = true) (hit : tl.contains i = false) (hN : Nat.blt d X.N = true)
    (h : PDet P ⟨some d, op, ty, pos, af, none⟩ st v) (hn : JT X P ops k tl H0 R0 fuel (listed.setIfInBounds i true) ((d, v) :: st) H R) : JT X P ops k tl H0 R0 (fuel + 1) listed st H R :=
  jt_firstP hi rfl hgo (by simpa using hit) hN (fun a hs => .inl ⟨by simp [Region.wanted], fun w' _ => h _ a w' hs⟩) hn
theorem JA_gdt (hi : ops[i]? = some ⟨some d, op, ty, pos, af, some (j, want)⟩) (hgo : mayGo ops listed i = true) (ht : tailWaits ops tl listed i = true) (hit : tl.contains i = false) (hN : Nat.blt d X.N = true)
    (hj : dstOf ops j = some d0) (hb : look st d0 = some (.bool b)) (hw : b = want)
    (h : Det X P ⟨some d, op, ty, pos, af, some (j, want)⟩ st H0 R0 v) (hn : JA X P ops k tl H0 R0 fuel (listed.setIfInBounds i true) ((d, v) :: st) H R) : JA X P ops k tl H0 R0 (fuel + 1) listed st H R :=
  ja_first hi rfl hgo ht (by simpa using hit) hN (fun a hs => .inl ⟨by simp [Region.wanted, yielded_of hs hj hb, hw], fun w' ⟨M, Ds, hm⟩ => h a w' M Ds hs hm⟩) hn
theorem JA_gpd (hi : ops[i]? = some ⟨some d, op, ty, pos, af, some (j, want)⟩) (hgo : mayGo ops listed i = true) (hit : tl.contains i = false) (hN : Nat.blt d X.N = true)
    (hj : dstOf ops j = some d0) (hb : look st d0 = some (.bool b)) (hw : b = want)
    (h : PDet P ⟨some d, op, ty, pos, af, some (j, want)⟩ st v) (hn : JA X P ops k tl H0 R0 fuel (listed.setIfInBounds i true) ((d, v) :: st) H R) : JA X P ops k tl H0 R0 (fuel + 1) listed st H R :=
  ja_firstP hi rfl hgo (by simpa using hit) hN (fun a hs => .inl ⟨by simp [Region.wanted, yielded_of hs hj hb, hw], fun w' _ => h _ a w' hs⟩) hn
theorem JA_skip (hi : ops[i]? = some ⟨some d, op, ty, pos, af, some (j, want)⟩) (hgo : mayGo ops listed i = true) (hit : tl.contains i = false) (hN : Nat.blt d X.N = true)
    (hj : dstOf ops j = some d0) (hb : look st d0 = some (.bool b)) (hw : b = !want)
    (hn : JA X P ops k tl H0 R0 fuel (listed.setIfInBounds i true) ((d, undef) :: st) H R) : JA X P ops k tl H0 R0 (fuel + 1) listed st H R :=
  ja_firstP (v := undef) hi rfl hgo (by simpa using hit) hN (fun a hs => .inr ⟨by simp [Region.wanted, yielded_of hs hj hb, hw], rfl⟩) hn
end
/-- Two ways, by a guard. -/
theorem JA_split {d0 : Nat} {b : Bool} (hb : look st d0 = some (.bool b)) (ht : b = true → JA X P ops k tl H0 R0 fuel listed st H R) (hf : b = false → JA X P ops k tl H0 R0 fuel listed st H R) : JA X P ops k tl H0 R0 fuel listed st H R := by
  cases b
  · exact hf rfl
  · exact ht rfl
theorem JL_split {Q : Exit → Act → World → Prop} {rest : List Oper} {d0 : Nat} {b : Bool} (hb : look st d0 = some (.bool b)) (ht : b = true → JL X P ops Q rest st H R) (hf : b = false → JL X P ops Q rest st H R) : JL X P ops Q rest st H R := by
  cases b
  · exact hf rfl
  · exact ht rfl
theorem HSub.trans {A B C : List Chunk} (h1 : HSub A B) (h2 : HSub B C) : HSub A C := by
  obtain ⟨D1, e1⟩ := h1
  obtain ⟨D2, e2⟩ := h2
  exact ⟨D2 ++ D1, e1.trans (by rw [← List.append_assoc]; exact e2.append_right D1)⟩
/-- What a slot's writing leaves of the state. -/
def putSt (dst : Option Nat) (v : Value) (st : Sto) : Sto := match dst with | some d => (d, v) :: st | none => st
def dstOk (dst : Option Nat) (N : Nat) : Bool := match dst with | some d => Nat.blt d N | none => true
theorem Ok.putSt {o : Oper} {a : Act} {w' : World} {M : Nat → Prop} {Ds : List Nat} {H' : List Chunk} {R' : World → Prop} (h1 : StOk X.N st a) (h2 : a.defers = Ds.map Mark) (hd : dstOk o.dst X.N = true) (v : Value) (hm : Mem X M Ds H' R' w') :
    Ok X (Go.Proofs.Ytcfhbnfincpehaa.putSt o.dst v st) H' R' (a.put o.dst v) w' := by
  cases e : o.dst with
  | none => exact ⟨h1, M, Ds, h2, hm⟩
  | some d => rw [e] at hd; exact ⟨h1.put (blt_lt hd) v, M, Ds, h2, hm⟩
/-- The one that can be next. -/
theorem JA_one {i : Nat} {o : Oper} {α : Type} {v : α → Value} {Hx : α → List Chunk} {Rx : α → World → Prop} (hr : Region.ready .any ops listed = [i]) (hi : ops[i]? = some o) (hg : o.guard = none) (hN : dstOk o.dst X.N = true)
    (h : JO X P o st H R v Hx Rx) (hsub : ∀ x, HSub (Hx x) H ∧ ∀ w, Rx x w → R w) (hn : ∀ x, JA X P ops k tl H0 R0 fuel (listed.setIfInBounds i true) (putSt o.dst (v x) st) (Hx x) (Rx x)) : JA X P ops k tl H0 R0 (fuel + 1) listed st H R := by
  intro hs a w ho
  refine ⟨fun h0 => (by rw [hr] at h0; cases h0), fun j hj => ?_⟩
  rw [hr] at hj
  obtain rfl := List.mem_singleton.1 hj
  unfold wpOpIn
  simp only [hi, Region.wanted, hg, if_true]
  obtain ⟨h1, M, Ds, h2, h3⟩ := ho
  refine h a w M Ds _ _ h1 h3 fun x w' M' hm' => ?_
  have hs' : HSub (Hx x) H0 ∧ ∀ w, Rx x w → R0 w := ⟨(hsub x).1.trans hs.1, fun w hw => hs.2 w ((hsub x).2 w hw)⟩
  have ho' := Ok.putSt h1 h2 hN (v x) hm'
  exact ⟨.inr (ho'.stays hs'), hn x hs' _ _ ho'⟩
theorem JA_gone {i : Nat} {o : Oper} {α : Type} {v : α → Value} {Hx : α → List Chunk} {Rx : α → World → Prop} (hr : Region.ready .any ops listed = [i]) (hi : ops[i]? = some o) {j0 d0 : Nat} {want b : Bool} (hg : o.guard = some (j0, want)) (hj0 : dstOf ops j0 = some d0) (hb0 : look st d0 = some (.bool b)) (hw : b = want) (hN : dstOk o.dst X.N = true)
    (h : JO X P o st H R v Hx Rx) (hsub : ∀ x, HSub (Hx x) H ∧ ∀ w, Rx x w → R w) (hn : ∀ x, JA X P ops k tl H0 R0 fuel (listed.setIfInBounds i true) (putSt o.dst (v x) st) (Hx x) (Rx x)) : JA X P ops k tl H0 R0 (fuel + 1) listed st H R := by
  intro hs a w ho
  refine ⟨fun h0 => (by rw [hr] at h0; cases h0), fun j hj => ?_⟩
  rw [hr] at hj
  obtain rfl := List.mem_singleton.1 hj
  unfold wpOpIn
  have hwt := yielded_of ho.st hj0 hb0
  subst hw
  simp only [hi, Region.wanted, hg, hwt, beq_self_eq_true, if_true]
  obtain ⟨h1, M, Ds, h2, h3⟩ := ho
  refine h a w M Ds _ _ h1 h3 fun x w' M' hm' => ?_
  have hs' : HSub (Hx x) H0 ∧ ∀ w, Rx x w → R0 w := ⟨(hsub x).1.trans hs.1, fun w hw => hs.2 w ((hsub x).2 w hw)⟩
  have ho' := Ok.putSt h1 h2 hN (v x) hm'
  exact ⟨.inr (ho'.stays hs'), hn x hs' _ _ ho'⟩
/-- Each of those that can be next. -/
def JAl (X : Ctx) (P : Program) (ops : Array Oper) (k : Kont) (tl : List Nat) (H0 : List Chunk) (R0 : World → Prop) (fuel : Nat) (listed : Array Bool) (st : Sto) (H : List Chunk) (R : World → Prop) (rs : List Nat) : Prop :=
  (HSub H H0 ∧ ∀ w, R w → R0 w) → ∀ a w, Ok X st H R a w → ∀ i ∈ rs, wpOpIn (Fof X.ro) X.n P ops (NoPan (kden X P k)) i (fun a' w' => upTo tl (Stays X H0 R0) (listed.setIfInBounds i true) w' ∧ wpAnyHI (Fof X.ro) X.n P ops (NoPan (kden X P k)) (Stays X H0 R0) tl fuel (listed.setIfInBounds i true) a' w') a w
theorem JA_ready {rs : List Nat} (hr : Region.ready .any ops listed = rs) (hne : rs.isEmpty = false) (h : JAl X P ops k tl H0 R0 fuel listed st H R rs) : JA X P ops k tl H0 R0 (fuel + 1) listed st H R := by
  intro hs a w ho
  refine ⟨fun h0 => ?_, fun i hi => h hs a w ho i (hr ▸ hi)⟩
  rw [hr] at h0; rw [h0] at hne; cases hne
theorem JAl_nil : JAl X P ops k tl H0 R0 fuel listed st H R [] := fun _ _ _ _ i hi => by cases hi
theorem JAl_cons {i : Nat} {rs : List Nat} {o : Oper} {α : Type} {v : α → Value} {Hx : α → List Chunk} {Rx : α → World → Prop} (hi : ops[i]? = some o) (hg : o.guard = none) (hN : dstOk o.dst X.N = true)
    (h : JO X P o st H R v Hx Rx) (hsub : ∀ x, HSub (Hx x) H ∧ ∀ w, Rx x w → R w) (hn : ∀ x, JA X P ops k tl H0 R0 fuel (listed.setIfInBounds i true) (putSt o.dst (v x) st) (Hx x) (Rx x))
    (hrest : JAl X P ops k tl H0 R0 fuel listed st H R rs) : JAl X P ops k tl H0 R0 fuel listed st H R (i :: rs) := by
  intro hs a w ho j hj
  rcases List.mem_cons.1 hj with rfl | hj
  · unfold wpOpIn
    simp only [hi, Region.wanted, hg, if_true]
    obtain ⟨h1, M, Ds, h2, h3⟩ := ho
    refine h a w M Ds _ _ h1 h3 fun x w' M' hm' => ?_
    have hs' : HSub (Hx x) H0 ∧ ∀ w, Rx x w → R0 w := ⟨(hsub x).1.trans hs.1, fun w hw => hs.2 w ((hsub x).2 w hw)⟩
    have ho' := Ok.putSt h1 h2 hN (v x) hm'
    exact ⟨.inr (ho'.stays hs'), hn x hs' _ _ ho'⟩
  · exact hrest hs a w ho j hj
/-- One of the tail: it may turn whatever it likes. -/
theorem JA_tail {i : Nat} {o : Oper} {α : Type} {v : α → Value} {Hx : α → List Chunk} {Rx : α → World → Prop} (hr : Region.ready .any ops listed = [i]) (hi : ops[i]? = some o) (hg : o.guard = none) (hit : tl.contains i = true) (hsz : Nat.blt i listed.size = true) (hN : dstOk o.dst X.N = true)
    (h : JO X P o st H R v Hx Rx) (hn : ∀ x, JT X P ops k tl H0 R0 fuel (listed.setIfInBounds i true) (putSt o.dst (v x) st) (Hx x) (Rx x)) : JA X P ops k tl H0 R0 (fuel + 1) listed st H R := by
  intro hs a w ho
  refine ⟨fun h0 => (by rw [hr] at h0; cases h0), fun j hj => ?_⟩
  rw [hr] at hj
  obtain rfl := List.mem_singleton.1 hj
  unfold wpOpIn
  simp only [hi, Region.wanted, hg, if_true]
  obtain ⟨h1, M, Ds, h2, h3⟩ := ho
  refine h a w M Ds _ _ h1 h3 fun x w' M' hm' => ?_
  have hl : ∃ t ∈ tl, (listed.setIfInBounds j true).getD t false = true := ⟨j, by simpa using hit, by simp [blt_lt hsz]⟩
  exact ⟨.inl hl, hn x hl _ _ (Ok.putSt h1 h2 hN (v x) hm')⟩
theorem JT_one {i : Nat} {o : Oper} {α : Type} {v : α → Value} {Hx : α → List Chunk} {Rx : α → World → Prop} (hr : Region.ready .any ops listed = [i]) (hi : ops[i]? = some o) (hg : o.guard = none) (hN : dstOk o.dst X.N = true)
    (h : JO X P o st H R v Hx Rx) (hn : ∀ x, JT X P ops k tl H0 R0 fuel (listed.setIfInBounds i true) (putSt o.dst (v x) st) (Hx x) (Rx x)) : JT X P ops k tl H0 R0 (fuel + 1) listed st H R := by
  intro hs a w ho
  refine ⟨fun h0 => (by rw [hr] at h0; cases h0), fun j hj => ?_⟩
  rw [hr] at hj
  obtain rfl := List.mem_singleton.1 hj
  unfold wpOpIn
  simp only [hi, Region.wanted, hg, if_true]
  obtain ⟨h1, M, Ds, h2, h3⟩ := ho
  refine h a w M Ds _ _ h1 h3 fun x w' M' hm' => ?_
  have hl : ∃ t ∈ tl, (listed.setIfInBounds j true).getD t false = true := hs.elim fun t ht => ⟨t, ht.1, getD_set_true ht.2⟩
  exact ⟨.inl hl, hn x hl _ _ (Ok.putSt h1 h2 hN (v x) hm')⟩
end
end Go.Proofs.Ytcfhbnfincpehaa
