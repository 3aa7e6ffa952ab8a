/- The walks of package path: the iterator of follow. -/
import Derived.Test.YtcfhbnfincpehaaPathD
import Derived.Test.YtcfhbnfincpehaaKitR
namespace Go.Proofs.Ytcfhbnfincpehaa
open Go.RowKit Go.Shelf
attribute [local go_sem] Oper.semAt_some

/-- The turns of a range, from the least on. -/
def turnsOf (r : Rg) : List Int := (List.range (r.hi - r.lo + 1).toNat).map fun i : Nat => r.lo + (i : Int)
theorem turnsOf_len (r : Rg) : (turnsOf r).length = (r.hi - r.lo + 1).toNat := by simp [turnsOf]
theorem turnsOf_get (r : Rg) (k : Nat) (h : k < (turnsOf r).length) : (turnsOf r)[k] = r.lo + k := by simp [turnsOf]
theorem mem_turnsOf {r : Rg} {t : Int} : t ∈ turnsOf r ↔ r.lo ≤ t ∧ t ≤ r.hi := by
  simp only [turnsOf, List.mem_map, List.mem_range]
  constructor
  · rintro ⟨i, hi, rfl⟩; omega
  · rintro ⟨h1, h2⟩; exact ⟨(t - r.lo).toNat, by omega, by omega⟩

/-- What the iterator hands out: a turn of the hooks, and the state behind it. -/
abbrev Turned (hk : Rg) (s : St) := { x : Int × St // hk.lo ≤ x.1 ∧ x.1 ≤ hk.hi ∧ x.2 = nextS s x.1 }
def encT {hk : Rg} {s : St} (x : Turned hk s) : Array Value := #[I x.1.1, .agg #[I x.1.2.b, I x.1.2.d]]
def turnAt {hk : Rg} {s : St} (t : Int) (h : hk.lo ≤ t ∧ t ≤ hk.hi) : Turned hk s := ⟨(t, nextS s t), h.1, h.2, rfl⟩

set_option maxRecDepth 100000 in
set_option maxHeartbeats 1000000 in
theorem follow_stops (hk : Rg) (s : St) (hb sb : Nat) (w : World) (b1 : -3 ≤ hk.lo) (b2 : hk.hi ≤ 3) (b3 : -5 ≤ s.d) (b4 : s.d ≤ 5) (b5 : -1000 ≤ s.b) (b6 : s.b ≤ 1000)
    (hx : Box w hb [I hk.lo, I hk.hi]) (hs : Box w sb [I s.b, I s.d]) :
    SeqStopsK Fence.wide 2 Try.prog 88 #[.pointer (some ⟨hb, 0, none⟩), .pointer (some ⟨sb, 0, none⟩)] (encT (hk := hk) (s := s)) (KeptKs [hb, sb])
      (fun xs => xs.map (fun x => x.1.1) = turnsOf hk) (fun pre => ∃ k, k ≤ (turnsOf hk).length ∧ pre.map (fun x => x.1.1) = (turnsOf hk).take k) (turnsOf hk).length w := by
  intro l J Jx W hW hJ hJx hY h0
  have hx' := hx.later hW
  have hs' := hs.later hW
  refine callsIn_of_wp Try.func88 rfl trivial ?_ rfl
  simp only [Try.ntmps88, List.size_toArray, List.length_cons, List.length_nil, Nat.reduceAdd, Nat.reduceSub, Array.replicate_succ, Array.replicate_zero, List.push_toArray, List.append_toArray, List.nil_append, List.cons_append]
  have y0 := hx'.cell 0 rfl
  gi_wp2_with fail
  gi_loopw [4] (fun i wr => ∃ k : Nat, ∃ pre : List (Turned hk s), i = I (hk.lo + k) ∧ k ≤ (turnsOf hk).length ∧ pre.map (fun x => x.1.1) = (turnsOf hk).take k ∧ J pre wr ∧ Box wr hb [I hk.lo, I hk.hi] ∧ Box wr sb [I s.b, I s.d])
    (fun i _ => (hk.hi + 1 - intOf i).toNat)
  case atStart => exact ⟨0, [], by simp, by omega, rfl, h0, hx', hs'⟩
  case round =>
    clear y0 hx' hs' h0
    obtain ⟨k, pre, rfl, hkl, hpre, hj, hx', hs'⟩ := hrel
    have y0 := hx'.cell 0 rfl
    have y1 := hx'.cell 1 rfl
    have z0 := hs'.cell 0 rfl
    have z1 := hs'.cell 1 rfl
    rw [turnsOf_len] at hkl
    by_cases hlt : hk.lo + k ≤ hk.hi
    · have hplen : pre.length = k := by
        have := congrArg List.length hpre
        rw [List.length_map, List.length_take, turnsOf_len] at this; omega
      have hN := fun (W1 : World) => next_any s (hk.lo + k) W1 b3 b4 (by omega) (by omega) b5 b6
      have HN := Lib.hid hN
      have HP := Lib.hid hpre
      clear hN hpre
      gi_wp2_with fail
      refine ⟨trivial, (callsIn_wide.2 (HN.out wr)).mono ?_⟩
      rintro e w1 ⟨rfl, hb1⟩
      have hj1 : J pre w1 := hJ pre wr w1 none hj ⟨hb1.os, hb1.tape, hb1.output, hb1.size, fun k hk _ => hb1.block k hk⟩ (fun r h => by cases h)
      have hx1 := hx'.later hb1
      have hs1 := hs'.later hb1
      obtain ⟨fn, tmps, assign, body, hy, hR⟩ := hY pre (turnAt (hk.lo + k) ⟨by omega, hlt⟩) w1 hj1 (by rw [turnsOf_len]; omega)
      simp only [encT, turnAt] at hy
      clear y0 y1 z0 z1
      gi_wp2_with fail
      refine hR.mono ?_
      have hpre2 : (pre ++ [turnAt (hk := hk) (s := s) (hk.lo + k) ⟨by omega, hlt⟩]).map (fun x => x.1.1) = (turnsOf hk).take (k + 1) := by
        rw [List.map_append, HP.out, List.take_succ_eq_append_getElem (by rw [turnsOf_len]; omega), turnsOf_get]; rfl
      rintro e W3 (⟨rfl, hJ3, hk3⟩ | ⟨rfl, hJx3⟩)
      · have e1 := hk3 hb (by simp)
        have e2 := hk3 sb (by simp)
        have hx3 : Box W3 hb [I hk.lo, I hk.hi] := by obtain ⟨T, h⟩ := hx1; exact ⟨T, e1.trans h⟩
        have hs3 : Box W3 sb [I s.b, I s.d] := by obtain ⟨T, h⟩ := hs1; exact ⟨T, e2.trans h⟩
        have HP2 := Lib.hid hpre2
        clear hpre2 hk3 e1 e2
        gi_wp2_with fail
        go_roundw
        case rel => exact ⟨k + 1, _, by go_num, by rw [turnsOf_len]; omega, HP2.out, hJ3, hx3, hs3⟩
        case measure => simp [intOf]; omega
      · have HP2 := Lib.hid hpre2
        clear hpre2
        gi_wp2_with fail
        refine bodyPost_ret (results_none rfl _ _ _) rfl ?_
        exact ⟨⟨_, rfl⟩, .inr ⟨_, ⟨k + 1, by rw [turnsOf_len]; omega, HP2.out⟩, hJx3⟩⟩
    · have HP := Lib.hid hpre
      clear hpre
      gi_wp2_with fail
      go_end0
      exact ⟨⟨_, rfl⟩, .inl ⟨pre, by rw [HP.out, List.take_of_length_le (by rw [turnsOf_len]; omega)], hj⟩⟩
end Go.Proofs.Ytcfhbnfincpehaa
