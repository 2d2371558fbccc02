/- XC, for the statement WeightRing: what it needs, no more. -/
import Derived.Test.YthjbpjpcddegfaaGreatDoorZWeightRingXB
import Derived.Shelf.Spec.TrailingZeros
import Derived.Lib.LaidTab
import Derived.Lib.SmallJoins
import Derived.Shelf.Abstract
import Derived.Shelf.RegionOpen
import Derived.WalkKit
import Derived.OwnWalkIn
import Derived.TacticsInMore
import Derived.LoopNIn
import Derived.LoopIn
import Derived.Maps.AppendAt
import Derived.KernelRfl
import Derived.Lib.AppendIntMem
import Derived.Lib.ItoaLen
namespace Go.Proofs.YthjbpjpcddegfaaGreatDoor.Iter
open Go.RowKit Go.Shelf
attribute [local go_sem] Oper.semAt_some
set_option linter.unusedVariables false
set_option linter.unusedSimpArgs false
def tab64 : List Int := Lib.deBruijn64tab.map fun (x : Nat) => (x : Int)
def Tab (w : World) : Prop := ∀ j, j < 64 → w.cell? ⟨0, j, none⟩ = some (.int .u8 (tab64.getD j 0))
theorem tab_at (i : Nat) : tab64.getD i 0 = ((Lib.deBruijn64tab.getD i 0 : Nat) : Int) := by
  simp only [tab64, List.getD_eq_getElem?_getD, List.getElem?_map]
  cases Lib.deBruijn64tab[i]? <;> rfl
set_option maxHeartbeats 1000000 in
theorem tz_core (x k idx : Nat) (w : World) (hx0 : ((x : Int) == 0) = false)
    (key : IntKind.u64.wrap (bits BinOp.and IntKind.u64 (x : Int) (IntKind.u64.wrap (-(x : Int))) * 285870213051353865) / 288230376151711744 = (idx : Int))
    (hi : idx < 64) (hk : k < 64) (hcell : w.cell? ⟨0, idx, none⟩ = some (.int .u8 k)) :
    Calls Tryz.prog 154 #[.int .u64 x] w fun e w' => e = .returned (.int .i64 k) ∧ w' = w := by
  go_enter Tryz.func154, Tryz.ntmps154
  go_wp2_with (simp only [key])
  go_ret
  exact ⟨rfl, rfl⟩
theorem tz_calls (x : Nat) (hx : x < 18446744073709551616) (h0 : x ≠ 0) (w : World) (hT : Tab w) :
    Calls Tryz.prog 154 #[.int .u64 x] w fun e w' => e = .returned (.int .i64 (Lib.ctz 64 x)) ∧ w' = w := by
  obtain ⟨hlow, hk⟩ := Lib.lowest_bit 64 x h0 hx
  obtain ⟨hi, htab⟩ := Lib.deBruijn64_at _ hk
  have hlen : Lib.deBruijn64tab.length = 64 := by decide
  have hc := hT (2 ^ Lib.ctz 64 x * 285870213051353865 % 18446744073709551616 / 288230376151711744) hi
  refine tz_core x _ _ w (by simp; omega) (Go.Proofs.tz64_key x _ hx h0 hlow) hi hk (hc.trans ?_)
  rw [tab_at, htab]
def bl (s : Nat) : List Int := ((List.range 64).filter fun i => s.testBit i).map fun (i : Nat) => (i : Int)
theorem bl_zero : bl 0 = [] := by simp [bl]
theorem low_bits (s k m : Nat) (hs : s = 2 ^ k * (2 * m + 1)) : (∀ i, i < k → s.testBit i = false) ∧ s.testBit k = true ∧ (∀ i, i ≤ k → (s &&& (s - 1)).testBit i = false) ∧ ∀ i, k < i → (s &&& (s - 1)).testBit i = s.testBit i := by
  have hp : 0 < 2 ^ k := Nat.pow_pos (by decide)
  have h1 : ∀ j, s.testBit j = if j < k then (0 : Nat).testBit j else (2 * m + 1).testBit (j - k) := fun j => by
    have := Nat.testBit_two_pow_mul_add (2 * m + 1) hp j
    rw [Nat.add_zero, ← hs] at this
    exact this
  have e2 : s - 1 = 2 ^ k * (2 * m) + (2 ^ k - 1) := by
    rw [hs, Nat.mul_add, Nat.mul_one]; omega
  have h2 : ∀ j, (s - 1).testBit j = if j < k then (2 ^ k - 1).testBit j else (2 * m).testBit (j - k) := fun j => by
    rw [e2]; exact Nat.testBit_two_pow_mul_add (2 * m) (by omega) j
  refine ⟨fun i hi => ?_, ?_, fun i hi => ?_, fun i hi => ?_⟩
  · rw [h1, if_pos hi, Nat.zero_testBit]
  · rw [h1, if_neg (by omega), Nat.sub_self]; simp
  · rw [Nat.testBit_and, h1, h2]
    by_cases h : i < k
    · rw [if_pos h, Nat.zero_testBit, Bool.false_and]
    · obtain rfl : i = k := by omega
      rw [if_neg h, if_neg h, Nat.sub_self]; simp
  · rw [Nat.testBit_and, h2, h1, if_neg (by omega), if_neg (by omega)]
    obtain ⟨d, hd⟩ : ∃ d, i - k = d + 1 := ⟨i - k - 1, by omega⟩
    rw [hd, Nat.testBit_succ, Nat.testBit_succ]
    have a1 : (2 * m + 1) / 2 = m := by omega
    have a2 : 2 * m / 2 = m := by omega
    rw [a1, a2, Bool.and_self]
theorem filter_none {p : Nat → Bool} {l : List Nat} (h : ∀ i ∈ l, p i = false) : l.filter p = [] := by
  rw [List.filter_eq_nil_iff]; intro a ha; rw [h a ha]; decide
theorem bl_cons (s : Nat) (h0 : s ≠ 0) (hs : s < 18446744073709551616) : bl s = (Lib.ctz 64 s : Int) :: bl (s &&& (s - 1)) := by
  obtain ⟨m, hm, hk⟩ := Lib.ctzFrom_spec 64 s (by omega) hs
  have hc : Lib.ctz 64 s = Lib.ctzFrom 64 s := by unfold Lib.ctz; rw [if_neg h0]
  rw [hc]
  generalize Lib.ctzFrom 64 s = k at hm hk
  obtain ⟨l1, l2, l3, l4⟩ := low_bits s k m hm
  have hr : List.range 64 = List.range' 0 k ++ (k :: List.range' (k + 1) (63 - k)) := by
    rw [List.range_eq_range', show k :: List.range' (k + 1) (63 - k) = List.range' k (63 - k + 1) from by rw [List.range'_succ]]
    have := List.range'_append (s := 0) (m := k) (n := 63 - k + 1) (step := 1)
    rw [show 0 + 1 * k = k by omega] at this
    rw [this, show k + (63 - k + 1) = 64 by omega]
  have f1 : (List.range' 0 k).filter (fun i => s.testBit i) = [] := filter_none fun i hi => l1 i (by have := (List.mem_range'_1.1 hi).2; omega)
  have f2 : (List.range' 0 k).filter (fun i => (s &&& (s - 1)).testBit i) = [] := filter_none fun i hi => l3 i (by have := (List.mem_range'_1.1 hi).2; omega)
  have f3 : (List.range' (k + 1) (63 - k)).filter (fun i => (s &&& (s - 1)).testBit i) = (List.range' (k + 1) (63 - k)).filter (fun i => s.testBit i) :=
    List.filter_congr fun i hi => l4 i (by have := (List.mem_range'_1.1 hi).1; omega)
  unfold bl
  rw [hr, List.filter_append, List.filter_append, f1, f2, List.filter_cons_of_pos (by simpa using l2), List.filter_cons_of_neg (by rw [l3 k (Nat.le_refl _)]; simp), f3]
  rfl
theorem bl_range (s : Nat) : ∀ x ∈ bl s, 0 ≤ x ∧ x < 64 := by
  intro x hx
  obtain ⟨i, hi, rfl⟩ := List.mem_map.1 hx
  have := List.mem_range.1 (List.mem_filter.1 hi).1
  omega
theorem and_lt (s : Nat) (hs : s < 18446744073709551616) : s &&& (s - 1) < 18446744073709551616 := Nat.lt_of_le_of_lt Nat.and_le_left hs
theorem and_less (s : Nat) (h0 : s ≠ 0) : s &&& (s - 1) < s := Nat.lt_of_le_of_lt Nat.and_le_right (by omega)
theorem all_in (n : Nat) (s : Int) (w : World) : CallsIn Fence.wide n Tryz.prog 132 #[.int .u64 s] w fun e w' => e = .returned (.func (.func 153) #[] #[.pointer (some ⟨w.heap.size, 0, none⟩)]) ∧ w' = w.alloc (.cells #[.int .u64 s] 26) := by
  refine callsIn_wide.2 ?_
  go_enter Tryz.func132, Tryz.ntmps132
  go_wp2
  go_ret
  exact ⟨rfl, rfl⟩
def stateOf (Bs : Nat) (w : World) : Nat := match w.cell? ⟨Bs, 0, none⟩ with | some (.int _ x) => x.toNat | _ => 0
theorem stateOf_eq {Bs : Nat} {w : World} {x : Nat} (h : w.cell? ⟨Bs, 0, none⟩ = some (.int .u64 (x : Int))) : stateOf Bs w = x := by unfold stateOf; rw [h]; rfl
theorem and_spell (t : Nat) (h0 : t ≠ 0) (ht : t < 18446744073709551616) : Go.bits .and .u64 (t : Int) ((t : Int) - 1) = ((t &&& (t - 1) : Nat) : Int) := by
  have e1 : ((t : Int) - 1) = ((t - 1 : Nat) : Int) := by omega
  rw [e1, bits_and_u64_nat t (t - 1) ht (by omega)]
set_option maxRecDepth 100000 in
set_option maxHeartbeats 2000000 in
theorem all_gives (n Bs s : Nat) (hs : s < 18446744073709551616) : Gives n Tryz.prog 153 #[.pointer (some ⟨Bs, 0, none⟩)] (Value.int .i64) (bl s) Bs 26 (.int .u64 (s : Int)) Tab := by
  intro l J Jx W hB hJ hJx hT hY h0
  have wf : ∀ f, Fence.wide.fn f := fun _ => trivial
  have wd : Fence.wide.depth = none := rfl
  refine callsIn_of_wp Tryz.func153 rfl trivial ?_ rfl
  simp only [Tryz.ntmps153, List.size_toArray, List.length_cons, List.length_nil, Nat.reduceAdd, Nat.reduceSub, Array.replicate_succ, Array.replicate_zero, List.push_toArray, List.append_toArray, List.nil_append, List.cons_append]
  gi_wp2
  gi_loopw [] (fun wr => ∃ (pre : List Int) (t : Nat), t < 18446744073709551616 ∧ bl s = pre ++ bl t ∧ J pre wr ∧ wr.heap[Bs]? = some (.cells #[.int .u64 (t : Int)] 26 (0, 0))) (fun wr => stateOf Bs wr)
  case atStart => exact ⟨[], s, hs, rfl, h0, hB⟩
  case round =>
    obtain ⟨pre, t, ht, hx, hj, hb⟩ := hrel
    have hc : wr.cell? ⟨Bs, 0, none⟩ = some (.int .u64 (t : Int)) := Boxed.cell hb
    have hf : wr.frozen? ⟨Bs, 0, none⟩ = false := Boxed.frozen hb
    by_cases hz : t = 0
    · subst hz
      gi_wp2
      go_end0
      exact ⟨⟨_, rfl⟩, .inl (by rw [hx, bl_zero, List.append_nil]; exact hj)⟩
    · have hz1 : ((t : Int) == 0) = false := by simp; omega
      have hz2 : ((t : Int) != 0) = true := by simp; omega
      have hx' : bl s = pre ++ ((Lib.ctz 64 t : Nat) : Int) :: bl (t &&& (t - 1)) := by rw [hx, bl_cons t hz ht]
      have hsp := and_spell t hz ht
      obtain ⟨fn, tmps, assign, body, hy, hR⟩ := hY pre ((Lib.ctz 64 t : Nat) : Int) wr hj ⟨_, hx'⟩
      have HTB := hT pre wr hj
      have HH := Aside0.mk hR
      have HX := Aside0.mk hx'
      have HS := Aside0.mk hsp
      clear hR hx hx' hsp
      gi_wp2_with (gi_at_call 154; refine (callsIn_wide.2 (tz_calls t ht hz wr HTB)).mono ?_; rintro e w' ⟨rfl, rfl⟩)
      refine HH.out.mono ?_
      rintro e W3 (⟨rfl, hJ3, hk3⟩ | ⟨rfl, hJx3⟩)
      · have hb3 : Boxed W3 Bs 26 (.int .u64 (t : Int)) := hk3.trans hb
        have hc3 : W3.cell? ⟨Bs, 0, none⟩ = some (.int .u64 (t : Int)) := hb3.cell
        have hf3 : W3.frozen? ⟨Bs, 0, none⟩ = false := hb3.frozen
        gi_wp2
        rw [HS.out]
        go_roundw
        case rel => exact ⟨pre ++ [((Lib.ctz 64 t : Nat) : Int)], t &&& (t - 1), and_lt t ht, by rw [HX.out, List.append_assoc]; rfl, hJ _ _ _ _ hJ3 hb3, hb3.set _⟩
        case measure => rw [stateOf_eq (Boxed.cell (hb3.set _)), stateOf_eq hc]; exact and_less t hz
      · gi_wp2
        refine bodyPost_ret (results_none rfl _ _ _) rfl ?_
        exact ⟨⟨_, rfl⟩, .inr ⟨pre ++ [((Lib.ctz 64 t : Nat) : Int)], ⟨_, by rw [HX.out, List.append_assoc]; rfl⟩, hJx3⟩⟩
theorem tab_below {w w' : World} (h : Tab w) (hb : Below w.heap.size w w') : Tab w' := fun j hj => by
  have h1 := h j hj
  have hlt : 0 < w.heap.size := by
    unfold World.cell? at h1
    cases hx : w.heap[0]? with
    | none => rw [hx] at h1; simp at h1
    | some o => exact (Array.getElem?_eq_some_iff.1 hx).1
  rw [← h1]
  unfold World.cell?
  rw [hb.block _ hlt]
end Go.Proofs.YthjbpjpcddegfaaGreatDoor.Iter
