/- Own texts, laid together: J10 Open. Nothing is asked. -/
import Derived.Test.YtcfhbnfincpehaaB3
import Derived.Test.YtcfhbnfincpehaaRows
import Derived.WalkKit
import Derived.ProofKit
import Derived.OpenShut
import Derived.ShutString
import Derived.ChangeOld
import Derived.Deep.Slices
set_option linter.unusedSimpArgs false
set_option linter.unusedVariables false
/- Loops and cuts by what they turn: all other slots and pieces stay. Nothing is asked. -/
namespace Go.Proofs.Ytcfhbnfincpehaa
open Go.RowKit Go.Shelf

/-- The slots of a state. -/
def keysOf : Sto → List Nat
  | [] => []
  | (k, _) :: l => k :: keysOf l
def memB (k : Nat) : List Nat → Bool
  | [] => false
  | j :: l => bif Nat.beq k j then true else memB k l
/-- What was put since turns no slot of the elder state, but for those that are told anew. -/
def apart (pre ov st0 : List Nat) : Bool := match pre with
  | [] => true
  | k :: l => (memB k ov || !memB k st0) && apart l ov st0
theorem look_none {st : Sto} {t : Nat} (h : memB t (keysOf st) = false) : look st t = none := by
  induction st with
  | nil => rfl
  | cons p l ih =>
    obtain ⟨k, v⟩ := p
    simp only [keysOf, memB] at h
    cases e : Nat.beq t k
    · rw [e] at h
      have e2 : Nat.beq k t = false := by
        cases q : Nat.beq k t
        · rfl
        · rw [Nat.eq_of_beq_eq_true q] at e; simp at e
      simp only [look, e2, cond_false]
      exact ih h
    · rw [e] at h; cases h
theorem look_append (a b : Sto) (t : Nat) : look (a ++ b) t = (look a t).or (look b t) := by
  induction a with
  | nil => rfl
  | cons p l ih =>
    obtain ⟨k, v⟩ := p
    simp only [List.cons_append, look]
    cases Nat.beq k t
    · exact ih
    · rfl
theorem memB_look {st : Sto} {t : Nat} (h : memB t (keysOf st) = true) : ∃ v, look st t = some v := by
  induction st with
  | nil => cases h
  | cons p l ih =>
    obtain ⟨k, v⟩ := p
    simp only [keysOf, memB] at h
    cases e : Nat.beq t k
    · rw [e] at h
      obtain ⟨u, hu⟩ := ih h
      have e2 : Nat.beq k t = false := by
        cases q : Nat.beq k t
        · rfl
        · rw [Nat.eq_of_beq_eq_true q] at e; simp at e
      exact ⟨u, by simp only [look, e2, cond_false]; exact hu⟩
    · have : k = t := (Nat.eq_of_beq_eq_true e).symm
      subst this
      exact ⟨v, by simp [look]⟩
/-- The elder state stands at the end. -/
class Tail (st st0 : Sto) (pre : outParam Sto) : Prop where
  eq : st = pre ++ st0
instance (st : Sto) : Tail st st [] := ⟨rfl⟩
instance (st st0 pre : Sto) (x : Nat × Value) [h : Tail st st0 pre] : Tail (x :: st) st0 (x :: pre) := ⟨by rw [h.eq]; rfl⟩
instance (a b st0 pre : Sto) [h : Tail b st0 pre] : Tail (a ++ b) st0 (a ++ pre) := ⟨by rw [List.append_assoc, ← h.eq]⟩
instance (d : Option Nat) (v : Value) (st st0 pre : Sto) [h : Tail st st0 pre] : Tail (putSt d v st) st0 (putSt d v [] ++ pre) := ⟨by cases d <;> (simp only [putSt]; rw [h.eq]; rfl)⟩
theorem stsub_over {st st0 pre ov : Sto} [ht : Tail st st0 pre] (hk : apart (keysOf pre) (keysOf ov) (keysOf st0) = true) (h : StSub st ov) : StSub st (ov ++ st0) := by
  intro t v hv
  rw [look_append] at hv
  cases ho : look ov t with
  | some u => rw [ho] at hv; simp at hv; subst hv; exact h t u ho
  | none =>
    rw [ho] at hv
    simp at hv
    have hno : memB t (keysOf pre) = false := by
      have key : ∀ l : List Nat, apart l (keysOf ov) (keysOf st0) = true → memB t l = false := by
        intro l
        induction l with
        | nil => intro _; rfl
        | cons k l ih =>
          intro hl
          simp only [apart, Bool.and_eq_true, Bool.or_eq_true, Bool.not_eq_true'] at hl
          simp only [memB]
          cases e : Nat.beq t k
          · simpa using ih hl.2
          · exfalso
            have : k = t := (Nat.eq_of_beq_eq_true e).symm
            subst this
            rcases hl.1 with h1 | h1
            · obtain ⟨u, hu⟩ := memB_look h1; rw [ho] at hu; cases hu
            · rw [look_none h1] at hv; cases hv
      exact key _ hk
    rw [ht.eq, look_append, look_none hno]
    simpa using hv

/-- Some pieces are taken out, the others stay. -/
def HTake (H L D : List Chunk) : Prop := H.Perm (L ++ D)
section
variable {H H' L D : List Chunk}
theorem ht_nil : HTake H [] H := List.Perm.refl _
theorem ht_cons {c : Chunk} [h : Pick H c H'] (h2 : HTake H' L D) : HTake H (c :: L) D := h.perm.trans (List.Perm.cons c h2)
theorem ht_conse {c c' : Chunk} [h : Pick H c H'] (e : c = c') (h2 : HTake H' L D) : HTake H (c' :: L) D := by subst e; exact ht_cons h2
theorem ht_ow {v : Value} {T z n n' : Nat} {xs xs' : List Value} [h : OwnAt H v T z n xs H'] (e : n = n') (e' : xs = xs') (h2 : HTake H' L D) : HTake H (ow v T z n' xs' :: L) D := by
  obtain ⟨A, B, h3, h4⟩ := h.ex
  subst e e' h3 h4
  exact List.perm_middle.trans (List.Perm.cons _ h2)
theorem ht_bx {b : Nat} {cs cs' : List Value} [h : BoxPick H b cs H'] (e : cs = cs') (h2 : HTake H' L D) : HTake H (bx b cs' :: L) D := by
  subst e; exact h.perm.trans (List.Perm.cons _ h2)
class MapPick {κ ν : Type} (H : List Chunk) (b : Nat) (ek : κ → Value) (ev : ν → Value) (m : outParam (κ → Option ν)) (H' : outParam (List Chunk)) : Prop where
  perm : H.Perm (mp b ek ev m :: H')
instance {κ ν : Type} (H : List Chunk) (b : Nat) (ek : κ → Value) (ev : ν → Value) (m : κ → Option ν) : MapPick (mp b ek ev m :: H) b ek ev m H := ⟨List.Perm.refl _⟩
instance {κ ν : Type} (H H' : List Chunk) (b : Nat) (ek : κ → Value) (ev : ν → Value) (m : κ → Option ν) (c : Chunk) [h : MapPick H b ek ev m H'] : MapPick (c :: H) b ek ev m (c :: H') := ⟨(h.perm.cons c).trans (List.Perm.swap _ _ _)⟩
theorem ht_mp {κ ν : Type} {b : Nat} {ek : κ → Value} {ev : ν → Value} {m m' : κ → Option ν} [h : MapPick H b ek ev m H'] (e : m = m') (h2 : HTake H' L D) : HTake H (mp b ek ev m' :: L) D := by
  subst e; exact h.perm.trans (List.Perm.cons _ h2)
/-- What stays is there still. -/
class HIn (H L : List Chunk) : Prop where
  sub : HSub H L
instance (H : List Chunk) : HIn H H := ⟨hsub_refl⟩
instance (H : List Chunk) : HIn H [] := ⟨hsub_nil⟩
instance (H H' L : List Chunk) (c : Chunk) [h : Pick H c H'] [h2 : HIn H' L] : HIn H (c :: L) := ⟨hsub_cons h2.sub⟩
instance (H L : List Chunk) [h : HIn H L] : HIn H ([] ++ L) := ⟨h.sub⟩
instance (H A L : List Chunk) (c : Chunk) [h : HIn H (c :: (A ++ L))] : HIn H ((c :: A) ++ L) := ⟨h.sub⟩
theorem ht_sub {D' : List Chunk} (h : HTake H L D') [h2 : HIn D' D] : HSub H (L ++ D) := by
  obtain ⟨E, hE⟩ := h2.sub
  exact ⟨E, by have h : H.Perm (L ++ D') := h; refine h.trans ?_; rw [List.append_assoc]; exact List.Perm.append_left L hE⟩
theorem ht_in (h : HTake H L D) : HSub H (L ++ D) := ⟨[], by simpa using (show H.Perm (L ++ D) from h)⟩
end

section
variable {X : Ctx} {P : Program} {st : Sto} {H D : List Chunk} {R : World → Prop} {k : Kont}
theorem JC_condT {c : Operand} {x y : Code} {b : Bool} (hc : opnd st c = some (.bool b)) (h : b = true) (ht : JC X P x k st H R) : JC X P (.cond c x y) k st H R := JC_cond hc (fun _ => ht) (fun e => by rw [h] at e; cases e)
theorem JC_condF {c : Operand} {x y : Code} {b : Bool} (hc : opnd st c = some (.bool b)) (h : b = false) (hf : JC X P y k st H R) : JC X P (.cond c x y) k st H R := JC_cond hc (fun e => by rw [h] at e; cases e) (fun _ => hf)
/-- A loop by the slots and the pieces that it turns. -/
theorem JC_loopF {γ : Type} {body : Code} (I : γ → Prop) (ov : γ → Sto) (Hv : γ → List Chunk) (μ : γ → Nat) (g0 : γ) (hI : I g0) (hs : StSub st (ov g0)) (hH : HTake H (Hv g0) D)
    (round : ∀ g, I g → ∀ K : Act → World → Prop, (∀ g', I g' → μ g' < μ g → ∀ a w, Ok X (ov g' ++ st) (Hv g' ++ D) R a w → K a w) → JC X P body (.thenP K k) (ov g ++ st) (Hv g ++ D) R) : JC X P (.loop body) k st H R :=
  JC_loop I (fun g => ov g ++ st) (fun g => Hv g ++ D) (fun _ => R) μ g0 hI (stsub_over (pre := []) rfl hs) (ht_in hH) (fun _ h => h) round
/-- .. that also knows something by the round. -/
theorem JC_loopK {γ : Type} {body : Code} (I : γ → Prop) (ov : γ → Sto) (Hv : γ → List Chunk) (Kn : γ → World → Prop) (μ : γ → Nat) (g0 : γ) (hI : I g0) (hs : StSub st (ov g0)) (hH : HTake H (Hv g0) D) (hR : ∀ w, R w → Kn g0 w)
    (round : ∀ g, I g → ∀ K : Act → World → Prop, (∀ g', I g' → μ g' < μ g → ∀ a w, Ok X (ov g' ++ st) (Hv g' ++ D) (KAnd (Kn g') R) a w → K a w) → JC X P body (.thenP K k) (ov g ++ st) (Hv g ++ D) (KAnd (Kn g) R)) : JC X P (.loop body) k st H R :=
  JC_loop I (fun g => ov g ++ st) (fun g => Hv g ++ D) (fun g => KAnd (Kn g) R) μ g0 hI (stsub_over (pre := []) rfl hs) (ht_in hH) (fun w h => ⟨hR w h, h⟩) round
theorem JE_roundF {γ : Type} {I : γ → Prop} {st0 pre : Sto} {ov : γ → Sto} {Hv : γ → List Chunk} {R' : γ → World → Prop} {μ : γ → Nat} {g : γ} {K : Act → World → Prop} {D0 D' : List Chunk}
    (hK : ∀ g', I g' → μ g' < μ g → ∀ a w, Ok X (ov g' ++ st0) (Hv g' ++ D0) (R' g') a w → K a w)
    (g' : γ) (hI : I g') (hlt : μ g' < μ g) (hs : StSub st (ov g')) (hH : HTake H (Hv g') D') [ht : Tail st st0 pre] [hd : HIn D' D0] [hR : Knows R (R' g')] (hk : apart (keysOf pre) (keysOf (ov g')) (keysOf st0) = true := by kernel_rfl) : JE X P .normal (.thenP K k) st H R :=
  fun a w ho => hK g' hI hlt a w (ho.weak (stsub_over hk hs) (ht_sub hH) hR.know)
/-- A cut by the slots and the pieces that were turned. -/
theorem JC_cutF {γ : Type} {c1 c2 : Code} (I : γ → Prop) (ov : γ → Sto) (Hv : γ → List Chunk) (D0 : List Chunk)
    (h1 : ∀ K : Act → World → Prop, (∀ g, I g → ∀ a w, Ok X (ov g ++ st) (Hv g ++ D0) R a w → K a w) → JC X P c1 (.thenP K k) st H R)
    (h2 : ∀ g, I g → JC X P c2 k (ov g ++ st) (Hv g ++ D0) R) : JC X P c1 (.seq c2 k) st H R :=
  fun a w ho => h1 _ (fun g hg a w ho => h2 g hg a w ho) a w ho
/-- .. where nothing was turned, and some pieces are new. -/
theorem JC_cutN {γ : Type} {c1 c2 : Code} (I : γ → Prop) (ov : γ → Sto) (Hv : γ → List Chunk)
    (h1 : ∀ K : Act → World → Prop, (∀ g, I g → ∀ a w, Ok X (ov g ++ st) (Hv g ++ H) R a w → K a w) → JC X P c1 (.thenP K k) st H R)
    (h2 : ∀ g, I g → JC X P c2 k (ov g ++ st) (Hv g ++ H) R) : JC X P c1 (.seq c2 k) st H R :=
  fun a w ho => h1 _ (fun g hg a w ho => h2 g hg a w ho) a w ho
theorem JE_cutF {γ : Type} {I : γ → Prop} {st0 pre : Sto} {ov : γ → Sto} {Hv : γ → List Chunk} {R0 : World → Prop} {K : Act → World → Prop} {D0 D' : List Chunk} (hK : ∀ g, I g → ∀ a w, Ok X (ov g ++ st0) (Hv g ++ D0) R0 a w → K a w)
    (g : γ) (hI : I g) (hs : StSub st (ov g)) (hH : HTake H (Hv g) D') [ht : Tail st st0 pre] [hd : HIn D' D0] [hR : Knows R R0] (hk : apart (keysOf pre) (keysOf (ov g)) (keysOf st0) = true := by kernel_rfl) : JE X P .normal (.thenP K k) st H R :=
  fun a w ho => hK g hI a w (ho.weak (stsub_over hk hs) (ht_sub hH) hR.know)
end
section
variable {X : Ctx} {P : Program} {st : Sto} {H : List Chunk} {R : World → Prop} {ops : Array Oper} {rest : List Oper} {Q : Exit → Act → World → Prop}
/-- Ways part by guards, and meet again some operations on. -/
theorem JL_join (k : Nat) (ov : Sto) (h1 : (∀ {st1 pre : Sto} {H1 : List Chunk} {R1 : World → Prop} [Tail st1 st pre] [HIn H1 H] [Knows R1 R], apart (keysOf pre) (keysOf ov) (keysOf st) = true → StSub st1 ov → JL X P ops Q (rest.drop k) st1 H1 R1) → JL X P ops Q rest st H R)
    (h2 : JL X P ops Q (rest.drop k) (ov ++ st) H R) : JL X P ops Q rest st H R :=
  h1 fun {_ _ _ _} ht hi hk ha hs => JL_weak (stsub_over ha hs) hi.sub hk.know h2
theorem JL_join1 (k : Nat) (t1 : Nat) (v1 : Value) (h1 : (∀ {st1 pre : Sto} {H1 : List Chunk} {R1 : World → Prop} [Tail st1 st pre] [HIn H1 H] [Knows R1 R], apart (keysOf pre) (keysOf [(t1, v1)]) (keysOf st) = true → StSub st1 [(t1, v1)] → JL X P ops Q (rest.drop k) st1 H1 R1) → JL X P ops Q rest st H R)
    (h2 : JL X P ops Q (rest.drop k) ((t1, v1) :: st) H R) : JL X P ops Q rest st H R := JL_join k [(t1, v1)] h1 h2
theorem JL_join2 (k : Nat) (t1 : Nat) (v1 : Value) (t2 : Nat) (v2 : Value) (h1 : (∀ {st1 pre : Sto} {H1 : List Chunk} {R1 : World → Prop} [Tail st1 st pre] [HIn H1 H] [Knows R1 R], apart (keysOf pre) (keysOf [(t1, v1), (t2, v2)]) (keysOf st) = true → StSub st1 [(t1, v1), (t2, v2)] → JL X P ops Q (rest.drop k) st1 H1 R1) → JL X P ops Q rest st H R)
    (h2 : JL X P ops Q (rest.drop k) ((t1, v1) :: (t2, v2) :: st) H R) : JL X P ops Q rest st H R := JL_join k [(t1, v1), (t2, v2)] h1 h2
theorem JL_join3 (k : Nat) (t1 : Nat) (v1 : Value) (t2 : Nat) (v2 : Value) (t3 : Nat) (v3 : Value) (h1 : (∀ {st1 pre : Sto} {H1 : List Chunk} {R1 : World → Prop} [Tail st1 st pre] [HIn H1 H] [Knows R1 R], apart (keysOf pre) (keysOf [(t1, v1), (t2, v2), (t3, v3)]) (keysOf st) = true → StSub st1 [(t1, v1), (t2, v2), (t3, v3)] → JL X P ops Q (rest.drop k) st1 H1 R1) → JL X P ops Q rest st H R)
    (h2 : JL X P ops Q (rest.drop k) ((t1, v1) :: (t2, v2) :: (t3, v3) :: st) H R) : JL X P ops Q rest st H R := JL_join k [(t1, v1), (t2, v2), (t3, v3)] h1 h2
theorem JL_join4 (k : Nat) (t1 : Nat) (v1 : Value) (t2 : Nat) (v2 : Value) (t3 : Nat) (v3 : Value) (t4 : Nat) (v4 : Value) (h1 : (∀ {st1 pre : Sto} {H1 : List Chunk} {R1 : World → Prop} [Tail st1 st pre] [HIn H1 H] [Knows R1 R], apart (keysOf pre) (keysOf [(t1, v1), (t2, v2), (t3, v3), (t4, v4)]) (keysOf st) = true → StSub st1 [(t1, v1), (t2, v2), (t3, v3), (t4, v4)] → JL X P ops Q (rest.drop k) st1 H1 R1) → JL X P ops Q rest st H R)
    (h2 : JL X P ops Q (rest.drop k) ((t1, v1) :: (t2, v2) :: (t3, v3) :: (t4, v4) :: st) H R) : JL X P ops Q rest st H R := JL_join k [(t1, v1), (t2, v2), (t3, v3), (t4, v4)] h1 h2
end
section
variable {X : Ctx} {P : Program} {st : Sto} {H H0 : List Chunk} {R R0 : World → Prop} {k : Kont} {ops : Array Oper} {fuel : Nat} {listed : Array Bool} {tl : List Nat}
/-- Each of those that can be next, behind the first one of the tail. -/
def JTl (X : Ctx) (P : Program) (ops : Array Oper) (k : Kont) (tl : List Nat) (H0 : List Chunk) (R0 : World → Prop) (fuel : Nat) (listed : Array Bool) (st : Sto) (H : List Chunk) (R : World → Prop) (rs : List Nat) : Prop :=
  (∃ t ∈ tl, listed.getD t false = true) → ∀ a w, Ok X st H R a w → ∀ i ∈ rs, wpOpIn (Fof X.ro) X.n P ops (NoPan (kden X P k)) i (fun a' w' => upTo tl (Stays X H0 R0) (listed.setIfInBounds i true) w' ∧ wpAnyHI (Fof X.ro) X.n P ops (NoPan (kden X P k)) (Stays X H0 R0) tl fuel (listed.setIfInBounds i true) a' w') a w
theorem JT_ready {rs : List Nat} (hr : Region.ready .any ops listed = rs) (hne : rs.isEmpty = false) (h : JTl X P ops k tl H0 R0 fuel listed st H R rs) : JT X P ops k tl H0 R0 (fuel + 1) listed st H R := by
  intro hs a w ho
  refine ⟨fun h0 => ?_, fun i hi => h hs a w ho i (hr ▸ hi)⟩
  rw [hr] at h0; rw [h0] at hne; cases hne
theorem JTl_nil : JTl X P ops k tl H0 R0 fuel listed st H R [] := fun _ _ _ _ i hi => by cases hi
theorem JTl_cons {i : Nat} {rs : List Nat} {dst : Option Nat} {op : Op} {ty : TypeId} {pos : String} {af : Array Edge} {α : Type} {v : α → Value} {Hx : α → List Chunk} {Rx : α → World → Prop} (hi : ops[i]? = some ⟨dst, op, ty, pos, af, none⟩) (hN : dstOk dst X.N = true)
    (h : JO X P ⟨dst, op, ty, pos, af, none⟩ st H R v Hx Rx) (hn : ∀ x, JT X P ops k tl H0 R0 fuel (listed.setIfInBounds i true) (putSt dst (v x) st) (Hx x) (Rx x))
    (hrest : JTl X P ops k tl H0 R0 fuel listed st H R rs) : JTl X P ops k tl H0 R0 fuel listed st H R (i :: rs) := by
  intro hs a w ho j hj
  rcases List.mem_cons.1 hj with rfl | hj
  · unfold wpOpIn
    simp only [hi, Region.wanted, if_true]
    obtain ⟨h1, M, Ds, h2, h3⟩ := ho
    refine h a w M Ds _ _ h1 h3 fun x w' M' hm' => ?_
    have hl : ∃ t ∈ tl, (listed.setIfInBounds j true).getD t false = true := hs.elim fun t ht => ⟨t, ht.1, getD_set_true ht.2⟩
    exact ⟨.inl hl, hn x hl _ _ (Ok.putSt h1 h2 hN (v x) hm')⟩
  · exact hrest hs a w ho j hj
/-- One of the tail among those that can be next. -/
theorem JAl_consT {i : Nat} {rs : List Nat} {dst : Option Nat} {op : Op} {ty : TypeId} {pos : String} {af : Array Edge} {α : Type} {v : α → Value} {Hx : α → List Chunk} {Rx : α → World → Prop} (hi : ops[i]? = some ⟨dst, op, ty, pos, af, none⟩) (hit : tl.contains i = true) (hsz : Nat.blt i listed.size = true) (hN : dstOk dst X.N = true)
    (h : JO X P ⟨dst, op, ty, pos, af, none⟩ st H R v Hx Rx) (hn : ∀ x, JT X P ops k tl H0 R0 fuel (listed.setIfInBounds i true) (putSt dst (v x) st) (Hx x) (Rx x))
    (hrest : JAl X P ops k tl H0 R0 fuel listed st H R rs) : JAl X P ops k tl H0 R0 fuel listed st H R (i :: rs) := by
  intro hs a w ho j hj
  rcases List.mem_cons.1 hj with rfl | hj
  · unfold wpOpIn
    simp only [hi, Region.wanted, if_true]
    obtain ⟨h1, M, Ds, h2, h3⟩ := ho
    refine h a w M Ds _ _ h1 h3 fun x w' M' hm' => ?_
    have hl : ∃ t ∈ tl, (listed.setIfInBounds j true).getD t false = true := ⟨j, by simpa using hit, by simp [blt_lt hsz]⟩
    exact ⟨.inl hl, hn x hl _ _ (Ok.putSt h1 h2 hN (v x) hm')⟩
  · exact hrest hs a w ho j hj
end
section
variable {X : Ctx} {P : Program} {st : Sto} {H H' H0 : List Chunk} {R R0 : World → Prop} {k : Kont} {ops : Array Oper} {fuel : Nat} {listed : Array Bool} {tl : List Nat} {rest : List Oper} {Q : Exit → Act → World → Prop}
theorem ok_slice {α : Type} {enc : α → List Value} {z : Nat} [hz : Rec enc z] {a : Act} {w : World} {v : Value} {T n : Nat} {cs : List Value} (xs : List α) [hp0 : OwnAt H v T z n cs H'] (hF : ∀ b, ¬ X.Fp b) (hc : cs = xs.flatMap enc) (hn : n = xs.length) (ho : Ok X st H R a w) :
    ∃ ad cap, v = .slice ad n cap ∧ Ok X st H' (KAnd (KSl ad n cap enc xs) R) a w := by
  have hp : Pick H (ow v T z n cs) H' := ⟨by obtain ⟨A, B, h1, h2⟩ := hp0.ex; subst h1 h2; exact List.perm_middle⟩
  have h1 := ho.freeze (c := ow v T z n cs) hF
  obtain ⟨ad, cap, rfl, _⟩ := ow_sl (enc := enc) h1.r.1 hc hn
  refine ⟨ad, cap, rfl, h1.know fun w hw => ⟨?_, hw.2⟩⟩
  obtain ⟨a', cap', h1, h2⟩ := ow_sl (enc := enc) hw.1 hc hn
  cases h1; exact h2
/-- Behind the first one of the tail an own slice is frozen. -/
theorem JT_slice {α : Type} {enc : α → List Value} {z : Nat} [hz : Rec enc z] {v : Value} {T n : Nat} {cs : List Value} (xs : List α) [hp0 : OwnAt H v T z n cs H'] (hF : ∀ b, ¬ X.Fp b) (hc : cs = xs.flatMap enc) (hn : n = xs.length)
    (h : ∀ a cap, v = .slice a n cap → JT X P ops k tl H0 R0 fuel listed st H' (KAnd (KSl a n cap enc xs) R)) : JT X P ops k tl H0 R0 fuel listed st H R := fun hs a w ho => by
  obtain ⟨ad, cap, e, ho'⟩ := ok_slice (enc := enc) (v := v) (T := T) xs hF hc hn ho
  exact h ad cap e hs a w ho'
theorem JL_slice {α : Type} {enc : α → List Value} {z : Nat} [hz : Rec enc z] {v : Value} {T n : Nat} {cs : List Value} (xs : List α) [hp0 : OwnAt H v T z n cs H'] (hF : ∀ b, ¬ X.Fp b) (hc : cs = xs.flatMap enc) (hn : n = xs.length)
    (h : ∀ a cap, v = .slice a n cap → JL X P ops Q rest st H' (KAnd (KSl a n cap enc xs) R)) : JL X P ops Q rest st H R := fun a w ho => by
  obtain ⟨ad, cap, e, ho'⟩ := ok_slice (enc := enc) (v := v) (T := T) xs hF hc hn ho
  exact h ad cap e a w ho'
end
section
variable {X : Ctx} {P : Program} {st : Sto} {H H' H0 : List Chunk} {R R0 : World → Prop} {k : Kont} {ops : Array Oper} {fuel : Nat} {listed : Array Bool} {tl : List Nat}
/-- The one that can be next; what the region began with is there still. -/
theorem JA_oneH {i : Nat} {dst : Option Nat} {op : Op} {ty : TypeId} {pos : String} {af : Array Edge} {α : Type} {v : α → Value} {Hx : α → List Chunk} {Rx : α → World → Prop} (hr : Region.ready .any ops listed = [i]) (hi : ops[i]? = some ⟨dst, op, ty, pos, af, none⟩) (hN : dstOk dst X.N = true)
    (h : JO X P ⟨dst, op, ty, pos, af, none⟩ st H R v Hx Rx) (hsub : ∀ x, HSub (Hx x) H0 ∧ ∀ w, Rx x w → R0 w) (hn : ∀ x, JA X P ops k tl H0 R0 fuel (listed.setIfInBounds i true) (putSt dst (v x) st) (Hx x) (Rx x)) : JA X P ops k tl H0 R0 (fuel + 1) listed st H R := by
  intro hs a w ho
  refine ⟨fun h0 => (by rw [hr] at h0; cases h0), fun j hj => ?_⟩
  rw [hr] at hj
  obtain rfl := List.mem_singleton.1 hj
  unfold wpOpIn
  simp only [hi, Region.wanted, if_true]
  obtain ⟨h1, M, Ds, h2, h3⟩ := ho
  refine h a w M Ds _ _ h1 h3 fun x w' M' hm' => ?_
  have ho' := Ok.putSt h1 h2 hN (v x) hm'
  exact ⟨.inr (ho'.stays (hsub x)), hn x (hsub x) _ _ ho'⟩
theorem JAl_consH {i : Nat} {rs : List Nat} {dst : Option Nat} {op : Op} {ty : TypeId} {pos : String} {af : Array Edge} {α : Type} {v : α → Value} {Hx : α → List Chunk} {Rx : α → World → Prop} (hi : ops[i]? = some ⟨dst, op, ty, pos, af, none⟩) (hN : dstOk dst X.N = true)
    (h : JO X P ⟨dst, op, ty, pos, af, none⟩ st H R v Hx Rx) (hsub : ∀ x, HSub (Hx x) H0 ∧ ∀ w, Rx x w → R0 w) (hn : ∀ x, JA X P ops k tl H0 R0 fuel (listed.setIfInBounds i true) (putSt dst (v x) st) (Hx x) (Rx x))
    (hrest : JAl X P ops k tl H0 R0 fuel listed st H R rs) : JAl X P ops k tl H0 R0 fuel listed st H R (i :: rs) := by
  intro hs a w ho j hj
  rcases List.mem_cons.1 hj with rfl | hj
  · unfold wpOpIn
    simp only [hi, Region.wanted, if_true]
    obtain ⟨h1, M, Ds, h2, h3⟩ := ho
    refine h a w M Ds _ _ h1 h3 fun x w' M' hm' => ?_
    have ho' := Ok.putSt h1 h2 hN (v x) hm'
    exact ⟨.inr (ho'.stays (hsub x)), hn x (hsub x) _ _ ho'⟩
  · exact hrest hs a w ho j hj
theorem JA_slice {α : Type} {enc : α → List Value} {z : Nat} [hz : Rec enc z] {v : Value} {T n : Nat} {cs : List Value} (xs : List α) [hp0 : OwnAt H v T z n cs H'] [hi : HIn H' H0] (hF : ∀ b, ¬ X.Fp b) (hc : cs = xs.flatMap enc) (hn : n = xs.length)
    (h : ∀ a cap, v = .slice a n cap → JA X P ops k tl H0 R0 fuel listed st H' (KAnd (KSl a n cap enc xs) R)) : JA X P ops k tl H0 R0 fuel listed st H R := fun hs a w ho => by
  obtain ⟨ad, cap, e, ho'⟩ := ok_slice (enc := enc) (v := v) (T := T) xs hF hc hn ho
  exact h ad cap e ⟨hi.sub, fun w hw => hs.2 w hw.2⟩ a w ho'
end
end Go.Proofs.Ytcfhbnfincpehaa

/- What came in, opened to plain values; and a law's row shut. Nothing is asked. -/
namespace Go.Proofs.Ytcfhbnfincpehaa
open Go.ChangeShapes Go.WideShapes Go.ChangeAt Go.RowKit Go.Deep

/-- The cells of a type are those of a plain value. -/
def OpensTo (P : Program) (t : TypeId) {α : Type} (e : α → List Value) : Prop :=
  ∀ (H : Type) (enc : TypeId × Value → H) (w : World) (base : Nat) (spare : Nat → Bool) (held : Bool) (n : Nat) (cs : List Value) (y : DataW H × List MemPlace), DataW.trod enc P w base spare held n t cs = some y → ∃ x, cs = e x
section
variable {P : Program} {t : TypeId} {α β γ : Type} {e0 : α → List Value} {e1 : β → List Value} {e2 : γ → List Value}
theorem OpensTo.to {e : β → List Value} (h : OpensTo P t e0) (f : α → β) (hf : ∀ x, e0 x = e (f x)) : OpensTo P t e := fun H enc w base sp hd n cs y hy => by
  obtain ⟨x, rfl⟩ := h H enc w base sp hd n cs y hy
  exact ⟨f x, hf x⟩
theorem opens_int {k : IntKind} (ht : P.underlying t = some (.int k)) : OpensTo P t (fun n : Int => [.int k n]) := fun H enc w base sp hd n cs y hy => by
  obtain ⟨m, rfl, _⟩ := DataW.trod_int ht hy
  exact ⟨m, rfl⟩
theorem opens_wfint {k : IntKind} (ht : P.underlying t = some (.int k)) : OpensTo P t (fun n : { m : Int // (Lit.int k m).wf = true } => [.int k n.1]) := fun H enc w base sp hd n cs y hy => by
  obtain ⟨m, rfl, _, hw⟩ := DataW.trod_int ht hy
  exact ⟨⟨m, hw⟩, rfl⟩
theorem opens_struct2 {f0 f1 : Field} (ht : P.underlying t = some (.struct #[f0, f1])) (h0 : OpensTo P f0.type e0) (h1 : OpensTo P f1.type e1) (o0 : f0.offset = 0) (o1 : f1.offset = P.cellsOf f0.type) (hc : P.cellsOf t = P.cellsOf f0.type + P.cellsOf f1.type) :
    OpensTo P t (fun p : α × β => e0 p.1 ++ e1 p.2) := fun H enc w base sp hd n cs y hy => by
  obtain ⟨y0, y1, m, _, hl, t0, t1⟩ := trod_struct2 ht hy
  obtain ⟨a, ha⟩ := h0 _ _ _ _ _ _ _ _ _ t0
  obtain ⟨b, hb⟩ := h1 _ _ _ _ _ _ _ _ _ t1
  refine ⟨(a, b), ?_⟩
  rw [o0, List.drop_zero] at ha
  rw [o1, List.take_of_length_le (by rw [List.length_drop, hl, hc]; omega)] at hb
  show cs = e0 a ++ e1 b
  rw [← ha, ← hb, List.take_append_drop]
theorem opens_struct3 {f0 f1 f2 : Field} (ht : P.underlying t = some (.struct #[f0, f1, f2])) (h0 : OpensTo P f0.type e0) (h1 : OpensTo P f1.type e1) (h2 : OpensTo P f2.type e2) (o0 : f0.offset = 0) (o1 : f1.offset = P.cellsOf f0.type) (o2 : f2.offset = P.cellsOf f0.type + P.cellsOf f1.type) (hc : P.cellsOf t = P.cellsOf f0.type + P.cellsOf f1.type + P.cellsOf f2.type) :
    OpensTo P t (fun p : α × β × γ => e0 p.1 ++ (e1 p.2.1 ++ e2 p.2.2)) := fun H enc w base sp hd n cs y hy => by
  obtain ⟨xs, m, _, _, hl, hlen, hf⟩ := DataW.trod_struct ht hy
  match xs, hlen with
  | [y0, y1, y2], _ =>
  obtain ⟨a, ha⟩ := h0 _ _ _ _ _ _ _ _ _ (show _ = some y0 by simpa using hf 0 f0 rfl)
  obtain ⟨b, hb⟩ := h1 _ _ _ _ _ _ _ _ _ (show _ = some y1 by simpa using hf 1 f1 rfl)
  obtain ⟨c, hc2⟩ := h2 _ _ _ _ _ _ _ _ _ (show _ = some y2 by simpa using hf 2 f2 rfl)
  refine ⟨(a, b, c), ?_⟩
  rw [o0, List.drop_zero] at ha
  rw [o1] at hb
  rw [o2, List.take_of_length_le (by rw [List.length_drop, hl, hc]; omega)] at hc2
  show cs = e0 a ++ (e1 b ++ e2 c)
  rw [← ha, ← hb, ← hc2, ← List.drop_drop, List.take_append_drop, List.take_append_drop]
/-- A slice that came in. -/
theorem opens_slice {H : Type} {enc : TypeId × Value → H} {w : World} {base : Nat} {spare : Nat → Bool} {held : Bool} {fuel : Nat} {cs : List Value} {y : DataW H × List MemPlace} {E : TypeId} {z : Nat} (ht : P.underlying t = some (.slice E)) (hE : OpensTo P E e0) (hz : P.cellsOf E = z) [hr : Rec e0 z]
    (h : DataW.trod enc P w base spare held fuel t cs = some y) : ∃ (a : Option Addr) (cap : Nat) (xs : List α), cs = [.slice a xs.length cap] ∧ KSl a xs.length cap e0 xs w := by
  rcases open_slice ht h with ⟨rfl, _⟩ | ⟨a, len, cap, m, n, D, Pl, rfl, hb, hl, hm, hmm, _, hel⟩
  · exact ⟨none, 0, [], rfl, ⟨⟨Nat.le_refl _, by decide, fun _ => ⟨rfl, rfl⟩, fun h => absurd rfl h⟩, rfl⟩⟩
  · have hle : len ≤ m := by rw [hmm]; split <;> omega
    have hx : ∀ i, i < len → ∃ x : α, w.cells? base (a.add (i * z)) z = some (e0 x) := fun i hi => by
      obtain ⟨cs', h1, h2⟩ := hel i (by omega)
      obtain ⟨x, rfl⟩ := hE _ _ _ _ _ _ _ _ _ h2
      rw [hz] at h1
      exact ⟨x, h1⟩
    by_cases h0 : len = 0
    · subst h0
      exact ⟨some a, cap, [], rfl, ⟨⟨Nat.zero_le _, hm, fun h => (by cases h), fun h => absurd rfl h⟩, rfl⟩⟩
    · obtain ⟨x0, _⟩ := hx 0 (by omega)
      haveI : Inhabited α := ⟨x0⟩
      obtain ⟨f, hf⟩ := choose_lt hx
      have hlen : ((List.range len).map f).length = len := by simp
      refine ⟨some a, cap, (List.range len).map f, by rw [hlen], ⟨⟨by rw [hlen]; exact hl, hm, fun h => (by cases h), fun _ => ?_⟩, rfl⟩⟩
      obtain ⟨b, o, sp⟩ := a
      have hpos := hr.pos
      have hall : ∀ i, i < len → ∀ j, j < z → w.cell? (((⟨b, o, sp⟩ : Addr).add (i * z)).add j) = (e0 (f i))[j]? := fun i hi j hj => (World.cells?_some (hf i hi)).2.2 j hj
      have hs : sp = none := by
        have h1 := hall 0 (by omega) 0 hpos
        have h2 : ∃ c, (e0 (f 0))[0]? = some c := ⟨_, List.getElem?_eq_getElem (by rw [hr.len]; exact hpos)⟩
        obtain ⟨c, h2⟩ := h2
        rw [h2] at h1
        simpa [Addr.add] using World.cell?_spot h1
      subst hs
      have hbl : b < w.heap.size := by
        have := World.cells?_block (hf 0 (by omega)) hpos
        simpa [Addr.add] using this
      refine ⟨b, o, rfl, hbl, fun q c hc => ?_⟩
      have hq : q < len * z := by
        have : q < ((List.range len).map f |>.flatMap e0).length := (List.getElem?_eq_some_iff.1 hc).1
        rwa [flatMap_len e0 z hr.len, hlen] at this
      have hdiv : q / z < len := Nat.div_lt_of_lt_mul (by rw [Nat.mul_comm]; exact hq)
      have hmod : q % z < z := Nat.mod_lt _ hpos
      have hqe : q = q / z * z + q % z := by rw [Nat.mul_comm]; exact (Nat.div_add_mod q z).symm
      have h1 := hall (q / z) hdiv (q % z) hmod
      rw [addr_add, addr_add] at h1
      rw [hqe, ← Nat.add_assoc, h1]
      have h2 := flatMap_get e0 z hr.len ((List.range len).map f) (q / z) (q % z) (f (q / z)) (by simp [hdiv]) hmod
      rw [← hqe, hc] at h2
      exact h2.symm
end
section
variable {H : Type} {enc : TypeId × Value → H} {P : Program}
theorem trodAll_stays (hl : laidOutB P = true) {W W' : World} (hb : Below W.heap.size W W') : ∀ {ts : List TypeId} {vs : List Value} {ds : List (DataW H)} {p : List MemPlace}, (∀ t ∈ ts, P.readableRec t = true ∧ t < P.types.size) → DataW.TrodAll enc P W 0 (fun _ => true) true ts vs ds p → (∀ x ∈ p, x.block < W.heap.size) →
    DataW.TrodAll enc P W' 0 (fun b => decide (b < W.heap.size)) true ts vs ds p
  | [], [], [], _, _, h, _ => h
  | [], [], _ :: _, _, _, h, _ => h.elim
  | [], _ :: _, _, _, _, h, _ => h.elim
  | _ :: _, [], _, _, _, h, _ => h.elim
  | _ :: _, _ :: _, [], _, _, h, _ => h.elim
  | t :: ts, v :: vs, d :: ds, p, hr, ⟨p1, p2, h1, h2, e⟩, hlt => by
    subst e
    exact ⟨p1, p2, Below.trod hl (hr t (by simp)).1 (hr t (by simp)).2 h1 hb (fun x hx => hlt x (by simp [hx])), trodAll_stays hl hb (fun t ht => hr t (by simp [ht])) h2 (fun x hx => hlt x (by simp [hx])), rfl⟩
/-- What a law owes at its return. -/
theorem law_post {f : Func} {s : ChangeSpec} {W W' : World} {args : Array Value} {ds gs : List (DataW H)} {before : List MemPlace} {tb : TypeId} (hW : DataW.Whole enc P f.params.toList s.vars false W args.toList ds gs before) (hb : Below W.heap.size W W')
    (hl : laidOutB P = true) (hr : ∀ t ∈ f.params.toList, P.readableRec t = true ∧ t < P.types.size) (hv : s.vars = []) (ht : f.resultTypes = #[tb]) (hu : P.underlying tb = some .bool) (h1 : (s.fn H (ds ++ gs)).results = [.lit (.bool true)]) (h2 : (s.fn H (ds ++ gs)).args = ds) (h3 : (s.fn H (ds ++ gs)).vars = []) :
    s.post enc P f false true false false W args (.bool true) W' := by
  have hlt := hW.lt
  have hW2 := hW
  obtain ⟨p, q, hA, hV, rfl, hfz, hnd⟩ := hW
  refine ⟨ds, gs, _, [], p, [], hW2, ?_, ?_, ?_, hb.frame _, fun h => by cases h⟩
  · rw [ht, h1]; exact trodAll_mk1 (shut_bool hu _)
  · rw [h2]; exact trodAll_stays hl hb hr hA fun x hx => hlt x (List.mem_append_left _ hx)
  · rw [h3, hv]; rfl
/-- From a contract to what a law's row asks. -/
theorem Cv.below {f : FuncId} {args : List Value} {pre : World → Prop} {v : Value} (h : Cv P f args pre v) {W : World} (hp : ∀ w', Below W.heap.size W w' → pre w') : Calls P f args.toArray W fun e W' => e = .returned v ∧ Below W.heap.size W W' := by
  refine (h (fun _ => False) W (fun _ h => h.elim) (by simp) .nil (fun w' hm => hp w' (hm.below (Nat.le_refl _) fun i _ h => h))).mono ?_
  rintro e w' ⟨_, M', rfl, hm, _⟩
  exact ⟨rfl, hm.below (Nat.le_refl _) fun i _ ⟨c, hc, _⟩ => by cases hc⟩
theorem KSl.below {α : Type} {a : Option Addr} {n cap : Nat} {e : α → List Value} {xs : List α} {w w' : World} (h : KSl a n cap e xs w) (hb : Below w.heap.size w w') : KSl a n cap e xs w' := ⟨h.1.below hb (Nat.le_refl _), h.2⟩
end
end Go.Proofs.Ytcfhbnfincpehaa
