/-
  The bits of a set, one by one: math/bits.TrailingZeros64, the iterator of package bits, and its three callers.
-/
import Derived.Test.YtpaikjnmopkekaaDoorIter
import Derived.Test.YtpaikjnmopkekaaDoorWMore
import Derived.Test.YtpaikjnmopkekaaDoorShelf
import Derived.Shelf.Spec.TrailingZeros
import Derived.Lib.LaidTab
import Derived.Lib.SmallJoins
import Derived.Shelf.Abstract
import Derived.Shelf.RegionOpen
import Derived.WalkKit
import Derived.OwnWalkIn
import Derived.TacticsInMore
import Derived.LoopNIn
import Derived.LoopIn
import Derived.Maps.AppendAt
import Derived.KernelRfl
import Derived.Lib.AppendIntMem
import Derived.Lib.ItoaLen
namespace Go.Proofs.YtpaikjnmopkekaaDoor.Iter
open Go.RowKit Go.Shelf Go.Proofs.YtpaikjnmopkekaaDoorW.PrintWords Go.Proofs.YtpaikjnmopkekaaDoorW.PrintLast Go.Proofs.YtpaikjnmopkekaaDoorW.PrintMore
attribute [local go_sem] Oper.semAt_some
set_option linter.unusedVariables false
set_option linter.unusedSimpArgs false

def tab64 : List Int := Lib.deBruijn64tab.map fun (x : Nat) => (x : Int)
abbrev Tab (w : World) : Prop := Go.Lib.TabIs Tryd.prog w "math/bits.deBruijn64tab" .u8 tab64
theorem tab_named : Tryd.prog.globalNamed "math/bits.deBruijn64tab" = some 0 := by kernel_rfl

theorem tab_at (i : Nat) : tab64.getD i 0 = ((Lib.deBruijn64tab.getD i 0 : Nat) : Int) := by
  simp only [tab64, List.getD_eq_getElem?_getD, List.getElem?_map]
  cases Lib.deBruijn64tab[i]? <;> rfl
set_option maxHeartbeats 1000000 in
theorem tz_core (x k idx : Nat) (w : World) (hx0 : ((x : Int) == 0) = false)
    (key : IntKind.u64.wrap (bits BinOp.and IntKind.u64 (x : Int) (IntKind.u64.wrap (-(x : Int))) * 285870213051353865) / 288230376151711744 = (idx : Int))
    (hi : idx < 64) (hk : k < 64) (hcell : w.cell? ⟨0, idx, none⟩ = some (.int .u8 k)) :
    Calls Tryd.prog 42 #[.int .u64 x] w fun e w' => e = .returned (.int .i64 k) ∧ w' = w := by
  go_enter Tryd.func42, Tryd.ntmps42
  go_wp2_with (simp only [key])
  go_ret
  exact ⟨rfl, rfl⟩
theorem tz_calls (x : Nat) (hx : x < 18446744073709551616) (h0 : x ≠ 0) (w : World) (hT : Tab w) :
    Calls Tryd.prog 42 #[.int .u64 x] w fun e w' => e = .returned (.int .i64 (Lib.ctz 64 x)) ∧ w' = w := by
  obtain ⟨hlow, hk⟩ := Lib.lowest_bit 64 x h0 hx
  obtain ⟨hi, htab⟩ := Lib.deBruijn64_at _ hk
  have hlen : Lib.deBruijn64tab.length = 64 := by decide
  have hc := hT.cell tab_named (2 ^ Lib.ctz 64 x * 285870213051353865 % 18446744073709551616 / 288230376151711744) (by simp only [tab64, List.length_map, hlen]; exact hi)
  refine tz_core x _ _ w (by simp; omega) (Go.Proofs.tz64_key x _ hx h0 hlow) hi hk (hc.trans ?_)
  rw [tab_at, htab]

/-! ### the bits of a number, rising -/
def bl (s : Nat) : List Int := ((List.range 64).filter fun i => s.testBit i).map fun (i : Nat) => (i : Int)
theorem bl_zero : bl 0 = [] := by simp [bl]
theorem low_bits (s k m : Nat) (hs : s = 2 ^ k * (2 * m + 1)) : (∀ i, i < k → s.testBit i = false) ∧ s.testBit k = true ∧ (∀ i, i ≤ k → (s &&& (s - 1)).testBit i = false) ∧ ∀ i, k < i → (s &&& (s - 1)).testBit i = s.testBit i := by
  have hp : 0 < 2 ^ k := Nat.pow_pos (by decide)
  have h1 : ∀ j, s.testBit j = if j < k then (0 : Nat).testBit j else (2 * m + 1).testBit (j - k) := fun j => by
    have := Nat.testBit_two_pow_mul_add (2 * m + 1) hp j
    rw [Nat.add_zero, ← hs] at this
    exact this
  have e2 : s - 1 = 2 ^ k * (2 * m) + (2 ^ k - 1) := by
    rw [hs, Nat.mul_add, Nat.mul_one]; omega
  have h2 : ∀ j, (s - 1).testBit j = if j < k then (2 ^ k - 1).testBit j else (2 * m).testBit (j - k) := fun j => by
    rw [e2]; exact Nat.testBit_two_pow_mul_add (2 * m) (by omega) j
  refine ⟨fun i hi => ?_, ?_, fun i hi => ?_, fun i hi => ?_⟩
  · rw [h1, if_pos hi, Nat.zero_testBit]
  · rw [h1, if_neg (by omega), Nat.sub_self]; simp
  · rw [Nat.testBit_and, h1, h2]
    by_cases h : i < k
    · rw [if_pos h, Nat.zero_testBit, Bool.false_and]
    · obtain rfl : i = k := by omega
      rw [if_neg h, if_neg h, Nat.sub_self]; simp
  · rw [Nat.testBit_and, h2, h1, if_neg (by omega), if_neg (by omega)]
    obtain ⟨d, hd⟩ : ∃ d, i - k = d + 1 := ⟨i - k - 1, by omega⟩
    rw [hd, Nat.testBit_succ, Nat.testBit_succ]
    have a1 : (2 * m + 1) / 2 = m := by omega
    have a2 : 2 * m / 2 = m := by omega
    rw [a1, a2, Bool.and_self]
theorem filter_none {p : Nat → Bool} {l : List Nat} (h : ∀ i ∈ l, p i = false) : l.filter p = [] := by
  rw [List.filter_eq_nil_iff]; intro a ha; rw [h a ha]; decide
theorem bl_cons (s : Nat) (h0 : s ≠ 0) (hs : s < 18446744073709551616) : bl s = (Lib.ctz 64 s : Int) :: bl (s &&& (s - 1)) := by
  obtain ⟨m, hm, hk⟩ := Lib.ctzFrom_spec 64 s (by omega) hs
  have hc : Lib.ctz 64 s = Lib.ctzFrom 64 s := by unfold Lib.ctz; rw [if_neg h0]
  rw [hc]
  generalize Lib.ctzFrom 64 s = k at hm hk
  obtain ⟨l1, l2, l3, l4⟩ := low_bits s k m hm
  have hr : List.range 64 = List.range' 0 k ++ (k :: List.range' (k + 1) (63 - k)) := by
    rw [List.range_eq_range', show k :: List.range' (k + 1) (63 - k) = List.range' k (63 - k + 1) from by rw [List.range'_succ]]
    have := List.range'_append (s := 0) (m := k) (n := 63 - k + 1) (step := 1)
    rw [show 0 + 1 * k = k by omega] at this
    rw [this, show k + (63 - k + 1) = 64 by omega]
  have f1 : (List.range' 0 k).filter (fun i => s.testBit i) = [] := filter_none fun i hi => l1 i (by have := (List.mem_range'_1.1 hi).2; omega)
  have f2 : (List.range' 0 k).filter (fun i => (s &&& (s - 1)).testBit i) = [] := filter_none fun i hi => l3 i (by have := (List.mem_range'_1.1 hi).2; omega)
  have f3 : (List.range' (k + 1) (63 - k)).filter (fun i => (s &&& (s - 1)).testBit i) = (List.range' (k + 1) (63 - k)).filter (fun i => s.testBit i) :=
    List.filter_congr fun i hi => l4 i (by have := (List.mem_range'_1.1 hi).1; omega)
  unfold bl
  rw [hr, List.filter_append, List.filter_append, f1, f2, List.filter_cons_of_pos (by simpa using l2), List.filter_cons_of_neg (by rw [l3 k (Nat.le_refl _)]; simp), f3]
  rfl
theorem bl_range (s : Nat) : ∀ x ∈ bl s, 0 ≤ x ∧ x < 64 := by
  intro x hx
  obtain ⟨i, hi, rfl⟩ := List.mem_map.1 hx
  have := List.mem_range.1 (List.mem_filter.1 hi).1
  omega
theorem bl_length (s : Nat) : (bl s).length ≤ 64 := by
  unfold bl
  rw [List.length_map]
  exact Nat.le_trans (List.length_filter_le _ _) (by simp)
theorem and_lt (s : Nat) (hs : s < 18446744073709551616) : s &&& (s - 1) < 18446744073709551616 := Nat.lt_of_le_of_lt Nat.and_le_left hs
theorem and_less (s : Nat) (h0 : s ≠ 0) : s &&& (s - 1) < s := Nat.lt_of_le_of_lt Nat.and_le_right (by omega)

/-! ### the iterator -/
theorem all_in (n : Nat) (s : Int) (w : World) : CallsIn Fence.wide n Tryd.prog 32 #[.int .u64 s] w fun e w' => e = .returned (.func (.func 41) #[] #[.pointer (some ⟨w.heap.size, 0, none⟩)]) ∧ w' = w.alloc (.cells #[.int .u64 s] 23) := by
  refine callsIn_wide.2 ?_
  go_enter Tryd.func32, Tryd.ntmps32
  go_wp2
  go_ret
  exact ⟨rfl, rfl⟩

def stateOf (Bs : Nat) (w : World) : Nat := match w.cell? ⟨Bs, 0, none⟩ with | some (.int _ x) => x.toNat | _ => 0
theorem stateOf_eq {Bs : Nat} {w : World} {x : Nat} (h : w.cell? ⟨Bs, 0, none⟩ = some (.int .u64 (x : Int))) : stateOf Bs w = x := by unfold stateOf; rw [h]; rfl
theorem and_spell (t : Nat) (h0 : t ≠ 0) (ht : t < 18446744073709551616) : Go.bits .and .u64 (t : Int) ((t : Int) - 1) = ((t &&& (t - 1) : Nat) : Int) := by
  have e1 : ((t : Int) - 1) = ((t - 1 : Nat) : Int) := by omega
  rw [e1, bits_and_u64_nat t (t - 1) ht (by omega)]
set_option maxRecDepth 100000 in
set_option maxHeartbeats 2000000 in
theorem all_gives (n Bs s : Nat) (hs : s < 18446744073709551616) : Gives n Tryd.prog 41 #[.pointer (some ⟨Bs, 0, none⟩)] (Value.int .i64) (bl s) Bs 23 (.int .u64 (s : Int)) Tab := by
  intro l J Jx W hB hJ hJx hT hY h0
  have wf : ∀ f, Fence.wide.fn f := fun _ => trivial
  have wd : Fence.wide.depth = none := rfl
  refine callsIn_of_wp Tryd.func41 rfl trivial ?_ rfl
  simp only [Tryd.ntmps41, List.size_toArray, List.length_cons, List.length_nil, Nat.reduceAdd, Nat.reduceSub, Array.replicate_succ, Array.replicate_zero, List.push_toArray, List.append_toArray, List.nil_append, List.cons_append]
  gi_wp2
  gi_loopw [] (fun wr => ∃ (pre : List Int) (t : Nat), t < 18446744073709551616 ∧ bl s = pre ++ bl t ∧ J pre wr ∧ wr.heap[Bs]? = some (.cells #[.int .u64 (t : Int)] 23 (0, 0))) (fun wr => stateOf Bs wr)
  case atStart => exact ⟨[], s, hs, rfl, h0, hB⟩
  case round =>
    obtain ⟨pre, t, ht, hx, hj, hb⟩ := hrel
    have hc : wr.cell? ⟨Bs, 0, none⟩ = some (.int .u64 (t : Int)) := Boxed.cell hb
    have hf : wr.frozen? ⟨Bs, 0, none⟩ = false := Boxed.frozen hb
    by_cases hz : t = 0
    · subst hz
      gi_wp2
      go_end0
      exact ⟨⟨_, rfl⟩, .inl (by rw [hx, bl_zero, List.append_nil]; exact hj)⟩
    · have hz1 : ((t : Int) == 0) = false := by simp; omega
      have hz2 : ((t : Int) != 0) = true := by simp; omega
      have hx' : bl s = pre ++ ((Lib.ctz 64 t : Nat) : Int) :: bl (t &&& (t - 1)) := by rw [hx, bl_cons t hz ht]
      have hsp := and_spell t hz ht
      obtain ⟨fn, tmps, assign, body, hy, hR⟩ := hY pre ((Lib.ctz 64 t : Nat) : Int) wr hj ⟨_, hx'⟩
      have HTB := hT pre wr hj
      have HH := Aside0.mk hR
      have HX := Aside0.mk hx'
      have HS := Aside0.mk hsp
      clear hR hx hx' hsp
      gi_wp2_with (gi_at_call 42; refine (callsIn_wide.2 (tz_calls t ht hz wr HTB)).mono ?_; rintro e w' ⟨rfl, rfl⟩)
      refine HH.out.mono ?_
      rintro e W3 (⟨rfl, hJ3, hk3⟩ | ⟨rfl, hJx3⟩)
      · have hb3 : Boxed W3 Bs 23 (.int .u64 (t : Int)) := hk3.trans hb
        have hc3 : W3.cell? ⟨Bs, 0, none⟩ = some (.int .u64 (t : Int)) := hb3.cell
        have hf3 : W3.frozen? ⟨Bs, 0, none⟩ = false := hb3.frozen
        gi_wp2
        rw [HS.out]
        go_roundw
        case rel => exact ⟨pre ++ [((Lib.ctz 64 t : Nat) : Int)], t &&& (t - 1), and_lt t ht, by rw [HX.out, List.append_assoc]; rfl, hJ _ _ _ _ hJ3 hb3, hb3.set _⟩
        case measure => rw [stateOf_eq (Boxed.cell (hb3.set _)), stateOf_eq hc]; exact and_less t hz
      · gi_wp2
        refine bodyPost_ret (results_none rfl _ _ _) rfl ?_
        exact ⟨⟨_, rfl⟩, .inr ⟨pre ++ [((Lib.ctz 64 t : Nat) : Int)], ⟨_, by rw [HX.out, List.append_assoc]; rfl⟩, hJx3⟩⟩

theorem infoI : (Tryd.prog.info? 3).map (fun i => (i.zero, i.size, i.bytes)) = some (some (.int .i64 0), 1, 8) := by kernel_rfl
theorem infoS : (Tryd.prog.info? 9).map (fun i => (i.zero, i.size, i.bytes)) = some (some (.string ⟨#[]⟩), 1, 16) := by kernel_rfl
theorem tab_below {w w' : World} (h : Tab w) (hb : Below w.heap.size w w') : Tab w' := Go.Joins.var_stays tab_named h hb (Nat.le_refl _)

set_option maxRecDepth 100000 in
set_option maxHeartbeats 2000000 in
theorem List_calls (s : Nat) (hs : s < 18446744073709551616) (w : World) (hTab : Tab w) :
    Calls Tryd.prog 14 #[.int .u64 (s : Int)] w fun e w' => ∃ v, e = .returned v ∧ w'.ownsRow w.heap.size 3 1 v (bl s).length ((bl s).map (Value.int .i64)) ∧ Below w.heap.size w w' := by
  refine callsIn_wide (n := 5) |>.1 ?_
  have wf : ∀ f, Fence.wide.fn f := fun _ => trivial
  have wd : Fence.wide.depth = none := rfl
  obtain ⟨i0, hi, hz0, hz1, hz2⟩ := info_parts infoI
  refine callsIn_of_wp_marks Tryd.func14 rfl trivial ?_ rfl
  simp only [Tryd.ntmps14, List.size_toArray, List.length_cons, List.length_nil, Nat.reduceAdd, Nat.reduceSub, Array.replicate_succ, Array.replicate_zero, List.push_toArray, List.append_toArray, List.nil_append, List.cons_append]
  gi_wp2_with (gi_at_call 32; refine (all_in _ _ _).mono ?_; rintro e w' ⟨rfl, rfl⟩)
  have bO := Boxed.new w 22 (.slice none 0 0)
  have bN := Boxed.new (w.alloc (.cells #[.slice none 0 0] 22)) 23 (.int .u64 (s : Int))
  rw [World.size_alloc] at bN
  have hB0 : Below w.heap.size w ((w.alloc (.cells #[.slice none 0 0] 22)).alloc (.cells #[.int .u64 (s : Int)] 23)) := ((Below.refl _ w).alloc (Nat.le_refl _) _).alloc (by simp) _
  refine range_box (n := 5) bN (gf := 41) (lb := #[.pointer (some ⟨w.heap.size + 1, 0, none⟩)]) rfl (enters_of Tryd.func41 (by kernel_rfl) rfl)
    (all_gives _ (w.heap.size + 1) s hs) rfl
    (fun pre W => (∃ v, Boxed W w.heap.size 22 v ∧ W.ownsRow w.heap.size 3 1 v pre.length (pre.map (Value.int .i64)) ∧ True) ∧ ((∃ v, Boxed W (w.heap.size + 1) 23 v) ∧ Below w.heap.size w W))
    (fun _ _ _ => False)
    (OwnFrom.and (Own.from (holdsRow_own w.heap.size w.heap.size 22 3 1 (fun (pre : List Int) => pre.length) (fun pre => pre.map (Value.int .i64)) (fun _ _ => True)) _) (OwnFrom.and (own_boxed _ _ _) (ownFrom_below (Nat.le_refl _) (by simp; omega))))
    (fun _ _ _ _ _ hs _ _ => hs) ?abi (fun _ _ _ _ _ hs _ => hs) ?tab
    ⟨⟨_, bO.alloc _, World.ownsRow_nil _ _ _ _, trivial⟩, ⟨_, bN⟩, hB0⟩
    (fun x => { tmps := #[.int .u64 (s : Int), undef, .slice none 0 0, .pointer (some ⟨w.heap.size, 0, none⟩), .int .i64 x, .int .u64 (s : Int), .func (.func 41) #[] #[.pointer (some ⟨w.heap.size + 1, 0, none⟩)], .int .i64 x, undef, undef, undef, undef, undef], defers := [] }) ?assign ?body ?done ?stop
  case abi =>
    refine abi_and ?_ (abi_and (abi_boxed _ _) (abi_below _ (by omega)))
    rintro pre W u u' ⟨v, hv, hrow, _⟩ hb
    exact ⟨v, hv.kept (grownBy_setCell' _ _ _) (by simp), hrow.kept (grownBy_setCell' W _ u') (.inr (hb.not_row (by decide) hrow).symm), trivial⟩
  case tab => exact fun pre W hp => tab_below hTab hp.2.2
  case assign =>
    intro l x W K hK
    gi_wp2
    exact hK
  case body =>
    rintro l pre x W ⟨⟨v, hv, hrow, _⟩, ⟨u, hu⟩, hB⟩ hpost
    have hc := hv.cell
    have hpl : pre.length < 64 := by
      obtain ⟨post, hp⟩ := hpost
      have := bl_length s
      rw [hp, List.length_append, List.length_cons] at this
      omega
    gi_wp2_with (gi_at_builtin; refine wpListIn_append_own _ rfl _ _ 22 rfl w.heap.size 3 i0 (.int .i64 0) 1 8 Tryd.underlying22 hi hz0 hz1 hz2 rfl (by decide) _ _ _ rfl (hrow.alloc _) ⟨W.heap.size, 0, none⟩ 1 1 [.int .i64 x] rfl rfl (cell_one_new _ _ _) (by simp [Value.oneCell']) (by unfold maxLen; omega) (by omega) (by have := hB.size; simp; omega) ?_; intro v' w1 hown' hgrow _; obtain ⟨g', cap', rfl⟩ := ownsRow_succ hown'; obtain ⟨hv1, hv2, hr2, hk2, hb2⟩ := hv.appended (by decide) hrow hB.size (Nat.le_refl _) hown' hgrow; have hc1 := hv1.cell; have hf1 := hv1.frozen)
    have hbs : ((w1.setCell ⟨w.heap.size, 0, none⟩ (.slice (some ⟨g', 0, none⟩) (pre.length + 1) cap'))).heap[w.heap.size + 1]? = W.heap[w.heap.size + 1]? :=
      (Below.heap_setCell _ _ _ _ (by simp)).trans ((hgrow.block _ (by simp; have := hu.lt; omega) (hu.not_row (by decide) hrow)).trans (Below.heap_alloc _ _ _ hu.lt))
    exact ⟨hk2, hbs, ⟨_, hv2, by simpa using hr2, trivial⟩, ⟨u, hbs.trans hu⟩, hB.trans hb2⟩
  case done =>
    rintro D W hD ⟨⟨v, hv, hrow, _⟩, _, hB⟩ hK
    have hc := hv.cell
    gi_wp2
    refine ⟨by simp, .inl ⟨_, _, rfl, run_takeDeferred hK, ?_⟩⟩
    exact ⟨_, results_tmp rfl _ _ _, v, rfl, ownsRow_putObj hrow _ hK rfl, hB.trans (belowK_b (w := w) (Nat.le_refl _) W D _ _ (by simp at hD; omega) hK rfl rfl)⟩
  case stop =>
    rintro D c pre W _ _ h _
    exact h.elim

theorem boxv_own {W W' : World} {row : Option Nat} {b B : Nat} {t : TypeId} {v : Value} (hv : Boxed W b t v) (hg : W.grownBy W' row) (hr : ∀ r, row = some r → B ≤ r ∧ ∃ o : Obj, W.heap[r]? = some o ∧ o.isCells = false) : Boxed W' b t v :=
  hv.kept hg fun e => by obtain ⟨_, o, ho, hc⟩ := hr b e.symm; rw [show W.heap[b]? = _ from hv] at ho; cases ho; cases hc
theorem boxv_put {W : World} {b D : Nat} {t : TypeId} {v : Value} {o : Obj} (o' : Obj) (hv : Boxed W b t v) (hD : W.heap[D]? = some o) (hc : o.isCells = false) : Boxed (W.putObj D o') b t v :=
  boxv_own (B := 0) hv (grownBy_putObj' W D o') (fun r e => by cases e; exact ⟨Nat.zero_le _, o, hD, hc⟩)
def masked (s : Nat) (a : Int) : Nat := s / 2 ^ (max a 0).toNat * 2 ^ (max a 0).toNat % 18446744073709551616
theorem masked_eq (s : Nat) (a : Int) : IntKind.u64.wrap ((s : Int) / 2 ^ (max a 0).toNat * 2 ^ (max a 0).toNat) = ((masked s a : Nat) : Int) := by
  rw [IntKind.wrap_u64]; unfold masked
  rw [Int.natCast_emod, Int.natCast_mul, Int.natCast_ediv, Int.natCast_pow]; rfl
theorem masked_lt (s : Nat) (a : Int) : masked s a < 18446744073709551616 := Nat.mod_lt _ (by decide)
def nextV (l : List Int) : Int × Bool := match l with | [] => (0, false) | x :: _ => (x, true)
set_option maxRecDepth 100000 in
set_option maxHeartbeats 2000000 in
theorem Next_far (s : Int) (a : Int) (ha : 64 ≤ a) (w : World) :
    Calls Tryd.prog 23 #[.int .u64 s, .int .i64 a] w fun e w' => e = .returned (.tuple #[.int .i64 0, .bool false]) ∧ Below w.heap.size w w' := by
  go_enter Tryd.func23, Tryd.ntmps23
  go_wp2
  exact bodyPost_ret (v := .tuple #[.int .i64 0, .bool false]) (by simp [results, Tryd.f23, go_sem]) rfl ⟨rfl, by repeat (first | exact Below.refl _ _ | (refine Below.setCell ?_ (by simp) _) | (refine Below.alloc ?_ (by simp) _))⟩
set_option maxRecDepth 100000 in
set_option maxHeartbeats 2000000 in
theorem Next_near (s : Nat) (hs : s < 18446744073709551616) (a : Int) (ha : a < 64) (w : World) (hTab : Tab w) :
    Calls Tryd.prog 23 #[.int .u64 (s : Int), .int .i64 a] w fun e w' => e = .returned (.tuple #[.int .i64 (nextV (bl (masked s a))).1, .bool (nextV (bl (masked s a))).2]) ∧ Below w.heap.size w w' := by
  refine callsIn_wide (n := 5) |>.1 ?_
  have wf : ∀ f, Fence.wide.fn f := fun _ => trivial
  have wd : Fence.wide.depth = none := rfl
  have HM := Aside0.mk (masked_eq s a)
  have hml := masked_lt s a
  obtain ⟨m, HMM⟩ : ∃ m, Aside0 (masked s a = m) := ⟨_, ⟨rfl⟩⟩
  rw [HMM.out] at HM hml ⊢
  refine callsIn_of_wp_marks Tryd.func23 rfl trivial ?_ rfl
  simp only [Tryd.ntmps23, List.size_toArray, List.length_cons, List.length_nil, Nat.reduceAdd, Nat.reduceSub, Array.replicate_succ, Array.replicate_zero, List.push_toArray, List.append_toArray, List.nil_append, List.cons_append]
  gi_wp2_with (gi_at_call 32; refine (all_in _ _ _).mono ?_; rintro e w' ⟨rfl, rfl⟩)
  rw [HM.out]
  have b1 := Boxed.new w 3 (.int .i64 0)
  have b2 := Boxed.new (w.alloc (.cells #[.int .i64 0] 3)) 4 (.bool false)
  have bN := Boxed.new ((w.alloc (.cells #[.int .i64 0] 3)).alloc (.cells #[.bool false] 4)) 23 (.int .u64 (m : Int))
  simp only [World.size_alloc] at b2 bN
  have hB0 : Below w.heap.size w (((w.alloc (.cells #[.int .i64 0] 3)).alloc (.cells #[.bool false] 4)).alloc (.cells #[.int .u64 (m : Int)] 23)) := (((Below.refl _ w).alloc (Nat.le_refl _) _).alloc (by simp) _).alloc (by simp; omega) _
  refine range_box (n := 5) bN (gf := 41) (lb := #[.pointer (some ⟨w.heap.size + 1 + 1, 0, none⟩)]) rfl (enters_of Tryd.func41 (by kernel_rfl) rfl)
    (all_gives _ (w.heap.size + 1 + 1) m hml) rfl
    (fun pre W => (pre = [] ∧ Boxed W w.heap.size 3 (.int .i64 0) ∧ Boxed W (w.heap.size + 1) 4 (.bool false)) ∧ ((∃ v, Boxed W (w.heap.size + 1 + 1) 23 v) ∧ Below w.heap.size w W))
    (fun c pre W => (c = .ret ∧ ∃ x, pre = [x] ∧ Boxed W w.heap.size 3 (.int .i64 x) ∧ Boxed W (w.heap.size + 1) 4 (.bool true)) ∧ Below w.heap.size w W)
    (OwnFrom.and (fun s W W' row h hg hr => ⟨h.1, boxv_own h.2.1 hg hr, boxv_own h.2.2 hg hr⟩) (OwnFrom.and (own_boxed _ _ _) (ownFrom_below (Nat.le_refl _) (by simp; omega))))
    (fun c => OwnFrom.and (fun s W W' row ⟨h0, x, hx, h1, h2⟩ hg hr => ⟨h0, x, hx, boxv_own h1 hg hr, boxv_own h2 hg hr⟩) (ownFrom_below (Nat.le_refl _) (by simp; omega)))
    ?abi ?abix ?tab
    ⟨⟨rfl, (b1.alloc _).alloc _, b2.alloc _⟩, ⟨_, bN⟩, hB0⟩
    (fun x => { tmps := #[.int .u64 (s : Int), .int .i64 a, undef, undef, .pointer (some ⟨w.heap.size, 0, none⟩), .pointer (some ⟨w.heap.size + 1, 0, none⟩), .int .i64 x, .int .i64 a, .bool (decide (64 ≤ a)), .int .u64 (s : Int), .int .i64 a, .int .i64 (max a 0), .int .u64 (max a 0),
      .int .u64 ((s : Int) / 2 ^ (max a 0).toNat), .int .i64 a, .int .i64 (max a 0), .int .u64 (max a 0), .int .u64 (m : Int), .func (.func 41) #[] #[.pointer (some ⟨w.heap.size + 1 + 1, 0, none⟩)], .int .i64 x, undef], defers := [] }) ?assign ?body ?done ?stop
  case abi =>
    refine abi_and ?_ (abi_and (abi_boxed _ _) (abi_below _ (by omega)))
    rintro pre W u u' ⟨h0, h1, h2⟩ hb
    exact ⟨h0, h1.kept (grownBy_setCell' _ _ _) (by simp; omega), h2.kept (grownBy_setCell' _ _ _) (by simp)⟩
  case abix =>
    refine fun c => abi_and ?_ (abi_below _ (by omega))
    rintro pre W u u' ⟨h0, x, hx, h1, h2⟩ hb
    exact ⟨h0, x, hx, h1.kept (grownBy_setCell' _ _ _) (by simp; omega), h2.kept (grownBy_setCell' _ _ _) (by simp)⟩
  case tab => exact fun pre W hp => tab_below hTab hp.2.2
  case assign =>
    intro l x W K hK
    gi_wp2
    exact hK
  case body =>
    rintro l pre x W ⟨⟨rfl, h1, h2⟩, ⟨u, hu⟩, hB⟩ hpost
    have hc1 := h1.cell
    have hf1 := h1.frozen
    have h2' := h2.kept (grownBy_setCell' W w.heap.size (.int .i64 x)) (by simp)
    have hc2 := h2'.cell
    have hf2 := h2'.frozen
    gi_wp2
    exact ⟨(KeepsOthers.setCell _ _ _).trans (KeepsOthers.setCell _ _ _), ⟨rfl, x, rfl, (h1.set _).kept (grownBy_setCell' _ _ _) (by simp), h2'.set _⟩, (hB.setCell (p := ⟨w.heap.size, 0, none⟩) (Nat.le_refl _) _).setCell (p := ⟨w.heap.size + 1, 0, none⟩) (by simp) _⟩
  case done =>
    rintro D W hD ⟨⟨h0, h1, h2⟩, _, hB⟩ hK
    have hc1 := h1.cell
    have hf1 := h1.frozen
    have h2' := h2.kept (grownBy_setCell' W w.heap.size (.int .i64 0)) (by simp)
    have hc2 := h2'.cell
    have hf2 := h2'.frozen
    gi_wp2
    have hK' := ((KeepsOthers.setCell W ⟨w.heap.size, 0, none⟩ (.int .i64 0)).trans (KeepsOthers.setCell _ ⟨w.heap.size + 1, 0, none⟩ (.bool false))).same D _ hK rfl
    refine ⟨by simp, .inl ⟨_, _, rfl, run_takeDeferred hK', ?_⟩⟩
    have e1 := (boxv_put (.deferred none) (((h1.set (.int .i64 0)).kept (grownBy_setCell' _ (w.heap.size + 1) (.bool false)) (by simp))) hK' rfl).cell
    have e2 := (boxv_put (.deferred none) (h2'.set (.bool false)) hK' rfl).cell
    refine ⟨.tuple #[.int .i64 0, .bool false], by simp [results, Tryd.f23, go_sem, e1, e2], by rw [h0]; rfl, ?_⟩
    exact ((hB.setCell (p := ⟨w.heap.size, 0, none⟩) (Nat.le_refl _) _).setCell (p := ⟨w.heap.size + 1, 0, none⟩) (by simp) _).trans (belowK_b (w := w) (Nat.le_refl _) _ D _ _ (by simp at hD; omega) hK' rfl rfl)
  case stop =>
    rintro D c pre W hD hpre ⟨⟨rfl, x, rfl, h1, h2⟩, hB⟩ hK
    gi_wp2
    refine ⟨by simp, .inl ⟨_, _, rfl, run_takeDeferred hK, ?_⟩⟩
    have e1 := (boxv_put (.deferred none) h1 hK rfl).cell
    have e2 := (boxv_put (.deferred none) h2 hK rfl).cell
    obtain ⟨rest, hrest⟩ := hpre
    refine ⟨.tuple #[.int .i64 x, .bool true], by simp [results, Tryd.f23, go_sem, e1, e2], by rw [← hrest]; rfl, ?_⟩
    exact hB.trans (belowK_b (w := w) (Nat.le_refl _) W D _ _ (by simp at hD; omega) hK rfl rfl)

/-! ### the text -/
abbrev Tab10 (w : World) : Prop := Go.Lib.TabIs Tryd.prog w "internal/strconv.uint64pow10" .u64 Go.Lib.pow10Tab
theorem tab10_named : Tryd.prog.globalNamed "internal/strconv.uint64pow10" = some 3 := by kernel_rfl
theorem tab10_below {w w' : World} (h : Tab10 w) (hb : Below w.heap.size w w') : Tab10 w' := Go.Joins.var_stays tab10_named h hb (Nat.le_refl _)
def numS (x : Int) : ByteArray := ⟨(Go.Lib.itoa x).toArray⟩
theorem itoa_below (x : Int) (h : 0 ≤ x ∧ x < 64) (W : World) (hT : Tab10 W) : Calls Tryd.prog 39 #[.int .i64 x] W fun e w' => e = .returned (.string (numS x)) ∧ Below W.heap.size W w' := by
  refine (Tryd.strconv_Itoa x (by omega) (by omega) W hT).mono ?_
  rintro e w' ⟨rfl, k, os, rfl⟩
  exact ⟨rfl, Go.Lib.below_grow _ _ (Nat.le_refl _) _ _⟩
def strs (l : List Int) : List ByteArray := l.map numS
def inner (s : Nat) : List UInt8 := Go.Lib.join ((strs (bl s)).map (·.data.toList)) (⟨#[44]⟩ : ByteArray).data.toList
def textB (s : Nat) : ByteArray := ((⟨#[123]⟩ : ByteArray) ++ (⟨(inner s).toArray⟩ : ByteArray)) ++ (⟨#[125]⟩ : ByteArray)
theorem join_le (sep : List UInt8) : ∀ (l : List (List UInt8)) (b : Nat), (∀ x ∈ l, x.length ≤ b) → (Go.Lib.join l sep).length ≤ l.length * (b + sep.length)
  | [], b, _ => by simp [Go.Lib.join]
  | [x], b, h => by
    have := h x (by simp)
    simp [Go.Lib.join]; omega
  | x :: y :: l, b, h => by
    have h1 := h x (by simp)
    have h2 := join_le sep (y :: l) b (fun z hz => h z (by simp [List.mem_cons] at hz ⊢; exact .inr hz))
    unfold Go.Lib.join at h2 ⊢
    rw [List.intercalate_cons_cons, List.length_append, List.length_append]
    simp only [List.length_cons] at h2 ⊢
    have : (l.length + 1 + 1) * (b + sep.length) = (l.length + 1) * (b + sep.length) + (b + sep.length) := Nat.succ_mul _ _
    omega

theorem numS_len (x : Int) (h : 0 ≤ x ∧ x < 64) : (numS x).data.toList.length ≤ 21 := by
  have := Go.Lib.itoa_length_le x (by omega) (by omega)
  simpa [numS] using this
theorem inner_len (s : Nat) : (inner s).length ≤ 2000 := by
  have h := join_le (⟨#[44]⟩ : ByteArray).data.toList ((strs (bl s)).map (·.data.toList)) 21 (by
    intro x hx
    obtain ⟨y, hy, rfl⟩ := List.mem_map.1 hx
    obtain ⟨z, hz, rfl⟩ := List.mem_map.1 hy
    exact numS_len z (bl_range s z hz))
  have h2 := bl_length s
  have e : (⟨#[44]⟩ : ByteArray).data.toList.length = 1 := rfl
  rw [e, List.length_map] at h
  have h3 : (strs (bl s)).length ≤ 64 := by unfold strs; rw [List.length_map]; exact h2
  have := Nat.mul_le_mul_right (21 + 1) h3
  unfold inner
  omega
theorem strs_snoc (l : List Int) (x : Int) : strs (l ++ [x]) = strs l ++ [numS x] := by simp [strs]
theorem grown_below {w w' : World} (h : Below w.heap.size w w') : w.grownBy w' none := ⟨h.os, h.tape, h.output, h.size, fun k hk _ => h.block k hk⟩
theorem keeps_below {w w' : World} (h : Below w.heap.size w w') : KeepsOthers w w' := ⟨h.size, fun k o hk _ => (h.block k (Array.getElem?_eq_some_iff.1 hk).1).trans hk⟩
theorem own_below {w w' : World} {base : Nat} {e : TypeId} {size n : Nat} {v : Value} {xs : List Value} (hr : w.ownsRow base e size v n xs) (h : Below w.heap.size w w') : w'.ownsRow base e size v n xs :=
  hr.kept (grown_below h) (by by_cases h : v.ownBlock = none; exact .inl h; exact .inr h)
theorem join_own (xs : List ByteArray) (v : Value) (sep : ByteArray) (base : Nat) (w : World) (hr : w.ownsRow base 9 1 v xs.length (xs.map Value.string)) (hn : xs.length ≤ 64) (hl : (Go.Lib.join (xs.map (·.data.toList)) sep.data.toList).length ≤ 140737488355328) :
    Calls Tryd.prog 40 #[v, .string sep] w fun e w' => e = .returned (.string ⟨(Go.Lib.join (xs.map (·.data.toList)) sep.data.toList).toArray⟩) ∧ Below w.heap.size w w' := by
  obtain ⟨hlen, h⟩ := hr
  rcases h with ⟨rfl, h0⟩ | ⟨g, cap, cur, rfl, _, hg, hc, hm, hs, ht⟩
  · have e0 : xs = [] := List.length_eq_zero_iff.1 h0
    subst e0
    exact (Tryd.strings_Join_none none 0 sep w).mono fun e w' ⟨he, hw⟩ => ⟨he, by rw [hw]; exact Below.refl _ _⟩
  · refine Tryd.strings_Join g 0 cap xs sep w (fun j x hx => ?_) (Array.getElem?_eq_some_iff.1 hg).1 (by omega) hc hl
    unfold World.cell?
    simp only [hg, Option.isSome_none, Bool.false_eq_true, if_false, Nat.zero_add]
    have hj : j < xs.length := (List.getElem?_eq_some_iff.1 hx).1
    have h1 : (cur.toList.take (xs.length * 1))[j]? = some (.string x) := by rw [ht, List.getElem?_map, hx]; rfl
    rw [List.getElem?_take_of_lt (by omega)] at h1
    simpa using h1
set_option maxRecDepth 100000 in
set_option maxHeartbeats 4000000 in
theorem Text_calls (s : Nat) (hs : s < 18446744073709551616) (w : World) (hTab : Tab w) (hT10 : Tab10 w) :
    Calls Tryd.prog 29 #[.int .u64 (s : Int)] w fun e w' => e = .returned (.string (textB s)) ∧ Below w.heap.size w w' := by
  refine callsIn_wide (n := 5) |>.1 ?_
  have wf : ∀ f, Fence.wide.fn f := fun _ => trivial
  have wd : Fence.wide.depth = none := rfl
  obtain ⟨i0, hi, hz0, hz1, hz2⟩ := info_parts infoS
  refine callsIn_of_wp_marks Tryd.func29 rfl trivial ?_ rfl
  simp only [Tryd.ntmps29, List.size_toArray, List.length_cons, List.length_nil, Nat.reduceAdd, Nat.reduceSub, Array.replicate_succ, Array.replicate_zero, List.push_toArray, List.append_toArray, List.nil_append, List.cons_append]
  gi_wp2_with (gi_at_call 32; refine (all_in _ _ _).mono ?_; rintro e w' ⟨rfl, rfl⟩)
  have bO := Boxed.new w 65 (.slice none 0 0)
  have bN := Boxed.new (w.alloc (.cells #[.slice none 0 0] 65)) 23 (.int .u64 (s : Int))
  rw [World.size_alloc] at bN
  have hB0 : Below w.heap.size w ((w.alloc (.cells #[.slice none 0 0] 65)).alloc (.cells #[.int .u64 (s : Int)] 23)) := ((Below.refl _ w).alloc (Nat.le_refl _) _).alloc (by simp) _
  refine range_box (n := 5) bN (gf := 41) (lb := #[.pointer (some ⟨w.heap.size + 1, 0, none⟩)]) rfl (enters_of Tryd.func41 (by kernel_rfl) rfl)
    (all_gives _ (w.heap.size + 1) s hs) rfl
    (fun pre W => (∃ v, Boxed W w.heap.size 65 v ∧ W.ownsRow w.heap.size 9 1 v (strs pre).length ((strs pre).map Value.string) ∧ True) ∧ ((∃ v, Boxed W (w.heap.size + 1) 23 v) ∧ Below w.heap.size w W))
    (fun _ _ _ => False)
    (OwnFrom.and (Own.from (holdsRow_own w.heap.size w.heap.size 65 9 1 (fun (pre : List Int) => (strs pre).length) (fun pre => (strs pre).map Value.string) (fun _ _ => True)) _) (OwnFrom.and (own_boxed _ _ _) (ownFrom_below (Nat.le_refl _) (by simp; omega))))
    (fun _ _ _ _ _ hs _ _ => hs) ?abi (fun _ _ _ _ _ hs _ => hs) ?tab
    ⟨⟨_, bO.alloc _, World.ownsRow_nil _ _ _ _, trivial⟩, ⟨_, bN⟩, hB0⟩
    (fun x => { tmps := #[.int .u64 (s : Int), undef, .string ⟨#[]⟩, .pointer (some ⟨w.heap.size, 0, none⟩), .int .i64 x, .int .u64 (s : Int), .func (.func 41) #[] #[.pointer (some ⟨w.heap.size + 1, 0, none⟩)], .int .i64 x, undef, undef, undef, undef, undef, undef, undef, undef, undef], defers := [] }) ?assign ?body ?done ?stop
  case abi =>
    refine abi_and ?_ (abi_and (abi_boxed _ _) (abi_below _ (by omega)))
    rintro pre W u u' ⟨v, hv, hrow, _⟩ hb
    exact ⟨v, hv.kept (grownBy_setCell' _ _ _) (by simp), hrow.kept (grownBy_setCell' W _ u') (.inr (hb.not_row (by decide) hrow).symm), trivial⟩
  case tab => exact fun pre W hp => tab_below hTab hp.2.2
  case assign =>
    intro l x W K hK
    gi_wp2
    exact hK
  case body =>
    rintro l pre x W ⟨⟨v, hv, hrow, _⟩, ⟨u, hu⟩, hB⟩ hpost
    obtain ⟨post, hp⟩ := hpost
    have hpl : (strs pre).length < 64 := by
      have := bl_length s
      rw [hp, List.length_append, List.length_cons] at this
      unfold strs; rw [List.length_map]; omega
    have hxr : 0 ≤ x ∧ x < 64 := bl_range s x (by rw [hp]; simp)
    clear hp
    have hTW : Tab10 W.drew := tab10_below hT10 hB.drew
    have hc := hv.cell
    have hvd : Boxed W.drew w.heap.size 65 v := hv
    have hrd : W.drew.ownsRow w.heap.size 9 1 v (strs pre).length ((strs pre).map Value.string) := hrow
    have hmx : Tryd.prog.follows .mixedOrders = true := by kernel_rfl
    gi_wp2
    gi_region_with_o (gi_at_call 39; refine (CallsIn.inRound l (callsIn_wide.2 (itoa_below x hxr _ hTW))).mono ?_; rintro e W1 ⟨rfl, hb1⟩; have hv1 : Boxed W1 w.heap.size 65 v := hvd.kept (grown_below hb1) (by simp); have hc1 := hv1.cell; have hzz : w.heap.size < W1.heap.size := hv1.lt; have hr1 := own_below hrd hb1; obtain ⟨v', w1, hrun, hown', hgrow, _⟩ := run_append_own (P := Tryd.prog) (w := W1.alloc (.cells #[.string (numS x)] 9)) w.heap.size 65 65 9 i0 (.string ⟨#[]⟩) 1 16 Tryd.underlying65 hi hz0 hz1 hz2 rfl (by decide) v _ _ (hr1.alloc _) ⟨W1.heap.size, 0, none⟩ 1 1 [.string (numS x)] rfl (cell_one_new _ _ _) (by simp [Value.oneCell']) (by unfold maxLen; omega) (by omega) (by have := hB.size; have := hb1.size; simp at this ⊢; omega); obtain ⟨g', cap', rfl⟩ := ownsRow_succ hown'; obtain ⟨hv1', hv2, hr2, hk2, hb2⟩ := hv1.appended (by decide) hr1 (by have := hB.size; have := hb1.size; simp at this ⊢; omega) (Nat.le_refl _) hown' hgrow; have hc1' := hv1'.cell; have hf1' := hv1'.frozen; simp [go_sem] at hrun)
    all_goals
      have hu1 : Boxed W1 (w.heap.size + 1) 23 u := Boxed.kept (W := W.drew) hu (grown_below hb1) (by simp)
      have hbs : ((w1.setCell ⟨w.heap.size, 0, none⟩ (.slice (some ⟨g', 0, none⟩) ((strs pre).length + 1) cap'))).heap[w.heap.size + 1]? = W1.heap[w.heap.size + 1]? :=
        (Below.heap_setCell _ _ _ _ (by simp)).trans ((hgrow.block _ (by simp; have := hu1.lt; omega) (hu1.not_row (by decide) hr1)).trans (Below.heap_alloc _ _ _ hu1.lt))
      have hbs2 : W1.heap[w.heap.size + 1]? = W.heap[w.heap.size + 1]? := hb1.block _ hu.lt
      exact ⟨((KeepsOthers.drew W).trans (keeps_below hb1)).trans hk2, hbs.trans hbs2, ⟨_, hv2, by rw [strs_snoc]; simpa using hr2, trivial⟩, ⟨u, hbs.trans hu1⟩, (hB.drew.trans (hb1.mono hB.size)).trans hb2⟩
  case done =>
    rintro D W hD ⟨⟨v, hv, hrow, _⟩, _, hB⟩ hK
    have hc := hv.cell
    have hln := inner_len s
    have hn64 : (strs (bl s)).length ≤ 64 := by have := bl_length s; unfold strs; rw [List.length_map]; exact this
    obtain ⟨J, hJ⟩ : ∃ J : ByteArray, J = ⟨(inner s).toArray⟩ := ⟨_, rfl⟩
    have hJs : J.size ≤ 2000 := by rw [hJ]; exact hln
    have hsz : ((⟨#[123]⟩ : ByteArray) ++ J).size = 1 + J.size := by rw [ByteArray.size_append]; rfl
    have HJ : Aside0 (Calls Tryd.prog 40 #[v, .string ⟨#[44]⟩] W fun e w' => e = .returned (.string J) ∧ Below W.heap.size W w') := ⟨by rw [hJ]; exact join_own (strs (bl s)) v ⟨#[44]⟩ w.heap.size W hrow hn64 (Nat.le_trans hln (by decide))⟩
    have HT : Aside0 (textB s = ((⟨#[123]⟩ : ByteArray) ++ J) ++ (⟨#[125]⟩ : ByteArray)) := ⟨by rw [hJ]; rfl⟩
    clear hJ
    gi_wp2_with (gi_at_call 40; refine (callsIn_wide.2 HJ.out).mono ?_; rintro e W1 ⟨rfl, hb1⟩)
    have hK1 : W1.heap[D]? = some (.deferred (some [])) := (hb1.block D (Array.getElem?_eq_some_iff.1 hK).1).trans hK
    refine ⟨by simp, .inl ⟨_, _, rfl, run_takeDeferred hK1, ?_⟩⟩
    exact ⟨_, results_tmp rfl _ _ _, by rw [HT.out]; rfl, (hB.trans (hb1.mono hB.size)).trans (belowK_b (w := w) (Nat.le_refl _) W1 D _ _ (by simp at hD; omega) hK1 rfl rfl)⟩
  case stop =>
    rintro D c pre W _ _ h _
    exact h.elim
end Go.Proofs.YtpaikjnmopkekaaDoor.Iter
