/- Slices read and appended to, maps, what is frozen. Nothing is asked. -/
import Derived.Test.YtcfhbnfincpehaaJ6
namespace Go.Proofs.Ytcfhbnfincpehaa
open Go.RowKit Go.Shelf

/-- Records of one size. -/
class Rec {α : Type} (enc : α → List Value) (z : outParam Nat) : Prop where
  len : ∀ x, (enc x).length = z
  pos : 0 < z
def ab (a : Option Addr) : Nat := (a.map (·.block)).getD 0
def ao (a : Option Addr) : Nat := (a.map (·.off)).getD 0

section
variable {X : Ctx} {P : Program} {st : Sto} {H H' : List Chunk} {R R' : World → Prop} {k : Kont} {ops : Array Oper} {rest : List Oper} {Q : Exit → Act → World → Prop}
variable {d : Option Nat} {ty : TypeId} {pos : String} {af : Array Edge} {g : Option (Nat × Bool)}

/-- Where the record i of a slice begins. -/
def ixA (a : Option Addr) (i z : Nat) : Nat := ao a + i * z
theorem KSl.at_ {α : Type} {enc : α → List Value} {z : Nat} [hz : Rec enc z] {a : Option Addr} {n cap : Nat} {xs : List α} {w : World} (h : KSl a n cap enc xs w) {i : Nat} (hi : i < n) :
    ∃ hi' : i < xs.length, a = some ⟨ab a, ao a, none⟩ ∧ ∀ j c, (enc xs[i])[j]? = some c → w.cell? ⟨ab a, ixA a i z + j, none⟩ = some c := by
  obtain ⟨h, rfl⟩ := h
  obtain ⟨b, o, rfl, _, hc⟩ := h.rec z hz.len hz.pos i hi
  exact ⟨hi, rfl, hc⟩
theorem det_indexAddr {x ix : Operand} {t E : TypeId} {α : Type} {enc : α → List Value} {z : Nat} [hz : Rec enc z] {a : Option Addr} {n cap : Nat} {xs : List α} {q : IntKind} {j : Int} {i : Nat} (hx : opnd st x = some (.slice a n cap)) (hi : opnd st ix = some (.int q j)) (hj : j = (i : Int)) (hn : i < n)
    [hs : Sees R a n cap α enc xs] (hu : ∀ w, (underlying t).run P w = .ok (.slice E) w) (hS : ∀ w, (sizeOf E).run P w = .ok z w) : Det X P ⟨d, .indexAddr t x ix, ty, pos, af, g⟩ st H R (.pointer (some ⟨ab a, ixA a i z, none⟩)) := fun ac w M Ds hst hm => by
  obtain ⟨_, ha, _⟩ := (hs.see w hm.r).at_ hn
  subst hj
  have e2 : (0 : Int) ≤ (i : Int) ∧ (i : Int) < (n : Int) := by omega
  simp only [execOp, hst.eval hx, hst.eval hi, Instr.indexAt, asIntOf, Sem.run_bind, Sem.run_pure, Result.andThen_ok, hu]
  rw [ha]
  simp only [e2, and_self, if_true, Sem.run_bind, hS, Result.andThen_ok, Sem.run_pure, addr_add, Int.toNat_natCast]
  rfl
theorem det_fieldAddrE {x : Operand} {s f k z i : Nat} {a : Option Addr} (hx : opnd st x = some (.pointer (some ⟨ab a, ixA a i z, none⟩))) (hf : FieldOff P s f k) : PDet P ⟨d, .fieldAddr s x f, ty, pos, af, g⟩ st (.pointer (some ⟨ab a, ixA a i z + k, none⟩)) := det_fieldAddr hx hf
theorem det_fieldAddrEk {x : Operand} {s f k k0 k2 z i : Nat} {a : Option Addr} (hx : opnd st x = some (.pointer (some ⟨ab a, ixA a i z + k0, none⟩))) (hf : FieldOff P s f k) (hk : k0 + k = k2) : PDet P ⟨d, .fieldAddr s x f, ty, pos, af, g⟩ st (.pointer (some ⟨ab a, ixA a i z + k2, none⟩)) := by
  subst hk; rw [← Nat.add_assoc]; exact det_fieldAddr hx hf
theorem det_loadEk {x : Operand} {t : TypeId} {α : Type} {enc : α → List Value} {z : Nat} [hz : Rec enc z] {a : Option Addr} {n cap : Nat} {xs : List α} {i k : Nat} {v : Value} (hx : opnd st x = some (.pointer (some ⟨ab a, ixA a i z + k, none⟩))) (hn : i < n)
    [hs : Sees R a n cap α enc xs] (hA : ∀ w, (isAgg t).run P w = .ok false w) (hl : n = xs.length) (hv : (enc (xs[i]'(hl ▸ hn)))[k]? = some v) : Det X P ⟨d, .load t x, ty, pos, af, g⟩ st H R v := fun ac w M Ds hst hm => by
  obtain ⟨_, ha, hc⟩ := (hs.see w hm.r).at_ hn
  have := run_load (P := P) (w := w) ⟨ab a, ixA a i z + k, none⟩ .plain
  simp [execOp, hst.eval hx, Instr.loadAt, Instr.sureAddr, loadVar, Sem.run_bind, hA, Result.andThen, hc k v hv, this]
theorem det_loadE {x : Operand} {t : TypeId} {α : Type} {enc : α → List Value} {z : Nat} [hz : Rec enc z] {a : Option Addr} {n cap : Nat} {xs : List α} {i : Nat} {v : Value} (hx : opnd st x = some (.pointer (some ⟨ab a, ixA a i z, none⟩))) (hn : i < n)
    [hs : Sees R a n cap α enc xs] (hA : ∀ w, (isAgg t).run P w = .ok false w) (hl : n = xs.length) (hv : (enc (xs[i]'(hl ▸ hn)))[0]? = some v) : Det X P ⟨d, .load t x, ty, pos, af, g⟩ st H R v := det_loadEk (k := 0) hx hn hA hl hv
theorem det_loadEAk {x : Operand} {t : TypeId} {α : Type} {enc : α → List Value} {z : Nat} [hz : Rec enc z] {a : Option Addr} {n cap : Nat} {xs : List α} {i k m : Nat} {vs : List Value} (hx : opnd st x = some (.pointer (some ⟨ab a, ixA a i z + k, none⟩))) (hn : i < n)
    [hs : Sees R a n cap α enc xs] (hA : ∀ w, (isAgg t).run P w = .ok true w) (hS : ∀ w, (sizeOf t).run P w = .ok m w) (hl : n = xs.length) (hv : ((enc (xs[i]'(hl ▸ hn))).drop k).take m = vs) (hm' : vs.length = m) : Det X P ⟨d, .load t x, ty, pos, af, g⟩ st H R (.agg vs.toArray) := fun ac w M Ds hst hm => by
  obtain ⟨_, ha, hc⟩ := (hs.see w hm.r).at_ hn
  have := run_loadCells (P := P) (w := w) ⟨ab a, ixA a i z + k, none⟩ m (fun j => vs.getD j undef) (fun j hj => by
    have hj' : (enc (xs[i]'(hl ▸ hn)))[k + j]? = some (vs.getD j undef) := by
      rw [← hv, List.getD_eq_getElem?_getD, List.getElem?_take_of_lt hj, List.getElem?_drop]
      have : k + j < (enc (xs[i]'(hl ▸ hn))).length := by
        have := congrArg List.length hv
        rw [List.length_take, List.length_drop, hm'] at this; omega
      rw [List.getElem?_eq_getElem this]; rfl
    have h2 := hc _ _ hj'
    rw [addr_add, ← h2]
    congr 2
    omega)
  have e : (List.range m).map (fun j => vs.getD j undef) = vs := by
    apply List.ext_getElem
    · simp [hm']
    · intro i h1 h2; simp [List.getD_eq_getElem?_getD, h2]
  rw [e] at this
  simp [execOp, hst.eval hx, Instr.loadAt, Instr.sureAddr, loadVar, Sem.run_bind, hA, hS, Result.andThen, this]
theorem det_loadEA {x : Operand} {t : TypeId} {α : Type} {enc : α → List Value} {z : Nat} [hz : Rec enc z] {a : Option Addr} {n cap : Nat} {xs : List α} {i m : Nat} {vs : List Value} (hx : opnd st x = some (.pointer (some ⟨ab a, ixA a i z, none⟩))) (hn : i < n)
    [hs : Sees R a n cap α enc xs] (hA : ∀ w, (isAgg t).run P w = .ok true w) (hS : ∀ w, (sizeOf t).run P w = .ok m w) (hl : n = xs.length) (hv : (enc (xs[i]'(hl ▸ hn))).take m = vs) (hm' : vs.length = m) : Det X P ⟨d, .load t x, ty, pos, af, g⟩ st H R (.agg vs.toArray) := det_loadEAk (k := 0) hx hn hA hS hl hv hm'
theorem det_len {x : Operand} {t E : TypeId} {a : Option Addr} {n cap : Nat} (hx : opnd st x = some (.slice a n cap)) (hu : ∀ w, (underlying t).run P w = .ok (.slice E) w) : PDet P ⟨d, .call ⟨.builtin .len, #[x], #[t]⟩, ty, pos, af, g⟩ st (.int .i64 n) := fun N ac w hst => by
  simp [execOp, resolve, invoke, builtin, Builtin.len_, hst.eval hx, Sem.run_bind, Sem.run_pure, Result.andThen, hu, goInt]
theorem det_max {x y : Operand} {t t' : TypeId} {m n : Int} (hx : opnd st x = some (.int .i64 m)) (hy : opnd st y = some (.int .i64 n)) : PDet P ⟨d, .call ⟨.builtin .max, #[x, y], #[t, t']⟩, ty, pos, af, g⟩ st (.int .i64 (max m n)) := fun N ac w hst => by
  simp [execOp, resolve, invoke, builtin, Builtin.max_, Builtin.max2, hst.eval hx, hst.eval hy, Result.andThen]
  split <;> omega
theorem det_min {x y : Operand} {t t' : TypeId} {m n : Int} (hx : opnd st x = some (.int .i64 m)) (hy : opnd st y = some (.int .i64 n)) : PDet P ⟨d, .call ⟨.builtin .min, #[x, y], #[t, t']⟩, ty, pos, af, g⟩ st (.int .i64 (min m n)) := fun N ac w hst => by
  simp [execOp, resolve, invoke, builtin, Builtin.min_, Builtin.min2, hst.eval hx, hst.eval hy, Result.andThen]
  split <;> omega

def ElemX (P : Program) (t e size : Nat) : Prop := ∃ bytes, ElemOf P t e size bytes
/-- One more record, onto a slice of the call's own. -/
theorem jo_append {s x : Operand} {t T z n b c : Nat} {v : Value} {xs news : List Value} (E : ElemX P t T z) (hs : opnd st s = some v) (hx : opnd st x = some (.slice (some ⟨b, 0, none⟩) 1 c)) [ho : OwnAt H v T z n xs H'] [hb : BoxAt H b news]
    (hl : news.length = z) (h1 : news.all (·.oneCell') = true) (hn : n ≤ 1000000) :
    JO X P ⟨d, .call ⟨.builtin .append, #[s, x], #[t, t]⟩, ty, pos, af, g⟩ st H R (fun p : Nat × Nat => .slice (some ⟨p.1, 0, none⟩) (n + 1) p.2) (fun p => ow (.slice (some ⟨p.1, 0, none⟩) (n + 1) p.2) T z (n + 1) (xs ++ news) :: H') (fun _ => R) := by
  intro a w M Ds K Q hst hm hK
  obtain ⟨A, B, e1, e2⟩ := ho.ex
  have hbx : Box w b news := (hm.hold _ hb.mem).now
  subst e1 e2
  have hm2 := hm.perm (mid_perm A B _)
  have hown : w.ownsRow 0 T z v n xs := (hm.hold (ow v T z n xs) (by simp)).now
  obtain ⟨bytes, E⟩ := E
  obtain ⟨i, zv, i1, i2, i3, i4, i5⟩ := E.ex
  have hsm := E.small
  obtain ⟨gg, cap, w', r1, r2, r3, r4, r5⟩ := run_append_lies (P := P) w t ty 0 T i zv z bytes E.ht i1 i2 i3 i4 i5 E.pos v n xs hown ⟨b, 0, none⟩ 1 c news (by omega)
    (fun j u hu => by have := hbx.cell j hu; rw [addr_add]; simpa using this) (fun u hu => List.all_eq_true.1 h1 u hu) (by omega) (by have : maxLen = 9223372036854775807 := rfl; omega)
    (by have : (n + 1) * bytes ≤ 1000001 * 4096 := Nat.mul_le_mul (by omega) hsm
        omega) (Nat.zero_le _) w.heap.size rfl
  refine ⟨fun f _ => fof_fn _ f, ?_⟩
  rw [semAt_plain _ _ _ (by intro c h; cases h)]
  have hrun : (execOp a.eval ⟨d, .call ⟨.builtin .append, #[s, x], #[t, t]⟩, ty, pos, af, g⟩).run P w = .ok (.value (.slice (some ⟨gg, 0, none⟩) (n + 1) cap)) w' := by
    simp only [execOp, resolve, invoke, builtin, Sem.run_bind, Sem.run_pure, Result.andThen_ok, List.map_toArray, List.map_cons, List.map_nil, hst.eval hs, hst.eval hx, r1]
  rw [hrun]
  refine hK (gg, cap) w' (fun x => M x ∨ x = gg) ?_
  have hold := ow_holds r2
  have hmv : Moves (fun x => ∃ c ∈ [ow v T z n xs], c.own x) w w' := ⟨r3.os, r3.tape, r3.output, r3.size, fun k hk hn' => r3.block k hk (fun e => hn' ⟨_, List.mem_singleton.2 rfl, e.symm⟩)⟩
  have := hm2.swap (C' := [ow (.slice (some ⟨gg, 0, none⟩) (n + 1) cap) T z (n + 1) (xs ++ news)]) (R' := fun _ => True) (fun x => M x ∨ x = gg) hmv (fun _ h => .inl h)
    (fun x hx => by
      rcases hx with hx | rfl
      · exact .inl hx
      · rcases r4 with r4 | r4
        · exact .inl (hm2.own (ow v T z n xs) (by simp) _ r4)
        · exact .inr (by omega))
    (fun x hx => by
      rcases hx with hx | rfl
      · exact Nat.lt_of_lt_of_le (hm.bd x hx) r3.size
      · exact r5)
    (by intro c hc; simp at hc; subst hc; exact hold)
    (by
      intro c hc x hx
      simp at hc; subst hc
      have e : x = gg := by
        have : (Value.slice (some (⟨gg, 0, none⟩ : Addr)) (n + 1) cap).ownBlock = some x := hx
        simpa [Value.ownBlock] using this.symm
      subst e
      refine ⟨.inr rfl, ?_⟩
      rcases r4 with r4 | r4
      · exact .inl ⟨ow v T z n xs, by simp, r4⟩
      · exact .inr (by omega)) (by simp) (fun _ _ => trivial)
  exact this.know fun w h => h.2
/-- A nil slice is one of the call's own, without a cell. -/
theorem Ok.nil {a : Act} {w : World} (T z : Nat) (h : Ok X st H R a w) : Ok X st (ow (.slice none 0 0) T z 0 [] :: H) R a w := by
  obtain ⟨h1, M, Ds, h2, hm⟩ := h
  have := hm.swap (C := []) (D := H) (C' := [ow (.slice none 0 0) T z 0 []]) (R' := fun _ => True) (w' := w) M (Moves.refl _) (fun _ h => h) (fun _ h => .inl h) hm.bd
    (by intro c hc; simp at hc; subst hc; exact ow_holds (World.ownsRow_nil _ _ _ _)) (by intro c hc b hb; simp at hc; subst hc; exact absurd (show (Value.slice none 0 0).ownBlock = some b from hb) (by simp [Value.ownBlock])) (by simp) (fun _ _ => trivial)
  exact ⟨h1, M, Ds, h2, this.know fun w h => h.2⟩
theorem JC_nil {c : Code} (T z : Nat) (h : JC X P c k st (ow (.slice none 0 0) T z 0 [] :: H) R) : JC X P c k st H R := fun a w ho => h a w (ho.nil T z)
theorem JE_nil {e : Exit} (T z : Nat) (h : JE X P e k st (ow (.slice none 0 0) T z 0 [] :: H) R) : JE X P e k st H R := fun a w ho => h a w (ho.nil T z)
theorem JL_nilS (T z : Nat) (h : JL X P ops Q rest st (ow (.slice none 0 0) T z 0 [] :: H) R) : JL X P ops Q rest st H R := fun a w ho => h a w (ho.nil T z)

/-- A piece of the call's own is frozen: it is known from now on. -/
theorem Ok.freeze {a : Act} {w : World} {c : Chunk} [hp : Pick H c H'] (hF : ∀ b, ¬ X.Fp b) (h : Ok X st H R a w) : Ok X st H' (KAnd c.says R) a w := by
  obtain ⟨h1, M, Ds, h2, hm⟩ := h
  have hm := hm.perm hp.perm
  have hc := hm.hold c (by simp)
  have hd := List.pairwise_cons.1 hm.dis
  refine ⟨h1, fun b => M b ∧ ¬ c.own b, Ds, h2, ⟨fun b hb => hm.bd b hb.1, fun x hx => hm.hold x (by simp [hx]), fun x hx b hb => ⟨hm.own x (by simp [hx]) b hb, fun hcb => hd.1 x hx b hcb hb⟩, fun x hx => hm.fp x (by simp [hx]), hd.2, fun w' hw => ⟨?_, hm.keep w' (hw.weaken fun _ _ h => h.1)⟩, hm.mv, fun b hb => ⟨hm.m0 b hb, fun hcb => ?_⟩, fun b hb => hm.m1 b hb.1, hm.mks, fun D hD => ⟨hm.mkM D hD, hm.mkH D hD c (by simp)⟩, fun D hD x hx => hm.mkH D hD x (by simp [hx]), hm.m2, hm.mk0⟩⟩
  · exact hc.says w' hw.size fun b hb => hw.block b (hc.bd b hb) fun hn => hn.2 hb
  · have h3 := hm.m2 b hb
    have h4 := (hm.fp c (by simp) b hcb).resolve_left (hF b)
    omega
theorem JE_freeze {e : Exit} (c : Chunk) [hp : Pick H c H'] (hF : ∀ b, ¬ X.Fp b) (h : JE X P e k st H' (KAnd c.says R)) : JE X P e k st H R := fun a w ho => h a w (ho.freeze hF)
theorem JC_freeze {cd : Code} (c : Chunk) [hp : Pick H c H'] (hF : ∀ b, ¬ X.Fp b) (h : JC X P cd k st H' (KAnd c.says R)) : JC X P cd k st H R := fun a w ho => h a w (ho.freeze hF)
theorem JL_freeze (c : Chunk) [hp : Pick H c H'] (hF : ∀ b, ¬ X.Fp b) (h : JL X P ops Q rest st H' (KAnd c.says R)) : JL X P ops Q rest st H R := fun a w ho => h a w (ho.freeze hF)
theorem noFp {N : Nat} {w0 : World} {M0 : Nat → Prop} : ∀ b, ¬ (mkX N w0 (OwnOf []) M0).Fp b := fun b ⟨c, hc, _⟩ => by cases hc
theorem ow_sl {α : Type} {enc : α → List Value} {z : Nat} [hz : Rec enc z] {v : Value} {T n : Nat} {xs : List α} {cs : List Value} {w : World} (h : (ow v T z n cs).says w) (hc : cs = xs.flatMap enc) (hn : n = xs.length) : ∃ a cap, v = .slice a n cap ∧ KSl a n cap enc xs w := by
  have hl : cs.length = xs.length * z := hc ▸ flatMap_len enc z hz.len xs
  rcases h.2 with ⟨h2, h3⟩ | ⟨g, cap, cur, hv, h3, h4, h5, h6, h7, h8⟩
  · refine ⟨none, 0, by rw [h2, h3], ⟨by omega, by unfold maxLen; omega, fun _ => ⟨h3, rfl⟩, fun hne => ?_⟩, hn⟩
    have : cs = [] := List.eq_nil_of_length_eq_zero (by rw [hl, ← hn, h3]; simp)
    rw [← hc] at hne
    exact absurd this hne
  · refine ⟨_, cap, hv, ⟨by omega, by omega, (fun e => by cases e), fun _ => ⟨g, 0, rfl, (Array.getElem?_eq_some_iff.1 h4).1, fun i c hi => ?_⟩⟩, hn⟩
    rw [← hc, ← h8] at hi
    have hi2 : cur.toList[i]? = some c := by
      rw [List.getElem?_take] at hi
      split at hi
      · exact hi
      · cases hi
    simp only [World.cell?, h4, Nat.zero_add]
    simpa using hi2
end
end Go.Proofs.Ytcfhbnfincpehaa
