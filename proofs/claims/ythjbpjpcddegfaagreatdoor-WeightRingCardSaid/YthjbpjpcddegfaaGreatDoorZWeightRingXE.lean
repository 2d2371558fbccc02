/- XE, for the statement WeightRing: what it needs, no more. -/
import Derived.Test.YthjbpjpcddegfaaGreatDoorZWeightRingXD
namespace Go.Proofs.YthjbpjpcddegfaaGreatDoor.Iter
open Go.RowKit Go.Shelf
attribute [local go_sem] Oper.semAt_some
set_option linter.unusedVariables false
set_option linter.unusedSimpArgs false
def blF (s k : Nat) : List Int := ((List.range' k (64 - k)).filter fun i => s.testBit i).map fun (i : Nat) => (i : Int)
theorem blF_zero (s : Nat) : blF s 0 = bl s := by unfold blF bl; rw [List.range_eq_range']
theorem blF_far (s k : Nat) (h : 64 ≤ k) : blF s k = [] := by unfold blF; rw [show 64 - k = 0 by omega]; rfl
theorem blF_step (s k : Nat) (h : k < 64) : blF s k = if s.testBit k then (k : Int) :: blF s (k + 1) else blF s (k + 1) := by
  unfold blF
  rw [show 64 - k = (64 - (k + 1)) + 1 by omega, List.range'_succ, List.filter_cons]
  split <;> simp
theorem blF_split (s : Nat) : ∀ (d k : Nat), k + d = 64 → blF s k = [] ∨ ∃ x : Nat, k ≤ x ∧ x < 64 ∧ blF s k = (x : Int) :: blF s (x + 1)
  | 0, k, h => .inl (blF_far s k (by omega))
  | d + 1, k, h => by
    rw [blF_step s k (by omega)]
    cases hb : s.testBit k with
    | true => exact .inr ⟨k, Nat.le_refl _, by omega, by simp⟩
    | false =>
      simp only [Bool.false_eq_true, if_false]
      rcases blF_split s d (k + 1) (by omega) with h1 | ⟨x, h1, h2, h3⟩
      · exact .inl h1
      · exact .inr ⟨x, by omega, h2, h3⟩
theorem masked_bit (s k i : Nat) (hi : i < 64) : (masked s (k : Int)).testBit i = (decide (k ≤ i) && s.testBit i) := by
  unfold masked
  rw [show (max (k : Int) 0).toNat = k by omega, show (18446744073709551616 : Nat) = 2 ^ 64 by decide, Nat.testBit_mod_two_pow, Nat.mul_comm, Nat.testBit_two_pow_mul, Nat.testBit_div_two_pow]
  by_cases h : k ≤ i
  · simp [h, hi]
  · simp [h, hi]
theorem bl_masked (s k : Nat) (h : k ≤ 64) : bl (masked s (k : Int)) = blF s k := by
  unfold bl blF
  have hr : List.range 64 = List.range' 0 k ++ List.range' k (64 - k) := by
    rw [List.range_eq_range']
    have := List.range'_append (s := 0) (m := k) (n := 64 - k) (step := 1)
    rw [show 0 + 1 * k = k by omega] at this
    rw [this, show k + (64 - k) = 64 by omega]
  have f1 : (List.range' 0 k).filter (fun i => (masked s (k : Int)).testBit i) = [] := filter_none fun i hi => by
    have := (List.mem_range'_1.1 hi).2
    rw [masked_bit s k i (by omega)]
    simp; omega
  have f2 : (List.range' k (64 - k)).filter (fun i => (masked s (k : Int)).testBit i) = (List.range' k (64 - k)).filter fun i => s.testBit i := List.filter_congr fun i hi => by
    have h1 := (List.mem_range'_1.1 hi).1
    have h2 := (List.mem_range'_1.1 hi).2
    rw [masked_bit s k i (by omega)]
    simp [h1]
  rw [hr, List.filter_append, f1, f2, List.nil_append]
theorem Next_any (s : Nat) (hs : s < 18446744073709551616) (k : Nat) (hk : k ≤ 64) (w : World) (hTab : Tab w) :
    Calls Tryz.prog 176 #[.int .u64 (s : Int), .int .i64 (k : Int)] w fun e w' => e = .returned (.tuple #[.int .i64 (nextV (blF s k)).1, .bool (nextV (blF s k)).2]) ∧ Below w.heap.size w w' := by
  by_cases h : k < 64
  · rw [← bl_masked s k hk]; exact Next_near s hs k (by omega) w hTab
  · rw [blF_far s k (by omega)]; exact Next_far s k (by omega) w
theorem each_in (n : Nat) (s : Int) (w : World) : CallsIn Fence.wide n Tryz.prog 152 #[.int .u64 s] w fun e w' => e = .returned (.func (.func 175) #[] #[.pointer (some ⟨w.heap.size, 0, none⟩)]) ∧ w' = w.alloc (.cells #[.int .u64 s] 26) := by
  refine callsIn_wide.2 ?_
  go_enter Tryz.func152, Tryz.ntmps152
  go_wp2
  go_ret
  exact ⟨rfl, rfl⟩
def measE (vi vok : Value) : Nat := match vi, vok with
  | .int _ i, .bool true => 65 - i.toNat
  | _, _ => 0
theorem nextV_cons (x : Int) (l : List Int) : nextV (x :: l) = (x, true) := rfl
theorem nextV_nil : nextV [] = (0, false) := rfl
set_option maxRecDepth 100000 in
set_option maxHeartbeats 4000000 in
theorem each_gives (n Bs s : Nat) (hs : s < 18446744073709551616) : GivesF n Tryz.prog 175 #[.pointer (some ⟨Bs, 0, none⟩)] (Value.int .i64) (bl s) Bs 26 (.int .u64 (s : Int)) Tab := by
  intro l J Jx W hB hJ hT hY h0
  have wf : ∀ f, Fence.wide.fn f := fun _ => trivial
  have wd : Fence.wide.depth = none := rfl
  refine callsIn_of_wp Tryz.func175 rfl trivial ?_ rfl
  simp only [Tryz.ntmps175, List.size_toArray, List.length_cons, List.length_nil, Nat.reduceAdd, Nat.reduceSub, Array.replicate_succ, Array.replicate_zero, List.push_toArray, List.append_toArray, List.nil_append, List.cons_append]
  have hc0 := hB.cell
  have hT0 := hT [] W h0
  gi_wp2_with (gi_at_call 176; refine (callsIn_wide.2 (Next_any s hs 0 (by omega) W hT0)).mono ?_; rintro e W1 ⟨rfl, hb1⟩)
  gi_loopw [3, 4] (fun vi vok wr => ∃ (pre : List Int) (k : Nat), k ≤ 64 ∧ vi = .int .i64 (nextV (blF s k)).1 ∧ vok = .bool (nextV (blF s k)).2 ∧ bl s = pre ++ blF s k ∧ J pre wr ∧ Boxed wr Bs 26 (.int .u64 (s : Int))) (fun vi vok wr => measE vi vok)
  case atStart => exact ⟨[], 0, by omega, rfl, rfl, by rw [blF_zero]; rfl, hJ _ _ _ h0 hb1, (hb1.block _ hB.lt).trans hB⟩
  case round =>
    obtain ⟨pre, k, hk, rfl, rfl, hx, hj, hb⟩ := hrel
    rcases blF_split s (64 - k) k (by omega) with h1 | ⟨x, h1, h2, h3⟩
    · rw [h1] at hx ⊢
      rw [nextV_nil]
      gi_wp2
      go_end0
      exact ⟨⟨_, rfl⟩, .inl (by rw [hx, List.append_nil]; exact hj)⟩
    · rw [h3] at hx ⊢
      rw [nextV_cons]
      obtain ⟨fn, tmps, assign, body, hy, hR⟩ := hY pre (x : Int) wr hj ⟨_, hx⟩
      have HH := Aside0.mk hR
      have HX := Aside0.mk hx
      clear hR hx
      have HN : Aside0 (∀ W3, Tab W3 → Calls Tryz.prog 176 #[.int .u64 (s : Int), .int .i64 ((x : Int) + 1)] W3 fun e w' => e = .returned (.tuple #[.int .i64 (nextV (blF s (x + 1))).1, .bool (nextV (blF s (x + 1))).2]) ∧ Below W3.heap.size W3 w') := ⟨fun W3 h => Next_any s hs (x + 1) (by omega) W3 h⟩
      gi_wp2
      refine HH.out.mono ?_
      rintro e W3 (⟨rfl, hJ3, hk3⟩ | ⟨rfl, hJx3⟩)
      · have hb3 : Boxed W3 Bs 26 (.int .u64 (s : Int)) := hk3.trans hb
        have hc3 := hb3.cell
        have hT3 := hT _ W3 hJ3
        gi_wp2_with (gi_at_call 176; refine (callsIn_wide.2 (HN.out _ hT3)).mono ?_; rintro e W4 ⟨rfl, hb4⟩)
        go_roundw
        case rel => exact ⟨pre ++ [(x : Int)], x + 1, by omega, rfl, rfl, by rw [HX.out, List.append_assoc]; rfl, hJ _ _ _ hJ3 hb4, (hb4.block _ hb3.lt).trans hb3⟩
        case measure =>
          rcases blF_split s (64 - (x + 1)) (x + 1) (by omega) with q | ⟨y, q1, q2, q3⟩
          · rw [q]; simp [nextV, measE]; omega
          · rw [q3]; simp [nextV, measE]; omega
      · gi_wp2
        refine bodyPost_ret (results_none rfl _ _ _) rfl ?_
        exact ⟨⟨_, rfl⟩, .inr ⟨pre ++ [(x : Int)], ⟨_, by rw [HX.out, List.append_assoc]; rfl⟩, hJx3⟩⟩
end Go.Proofs.YthjbpjpcddegfaaGreatDoor.Iter
