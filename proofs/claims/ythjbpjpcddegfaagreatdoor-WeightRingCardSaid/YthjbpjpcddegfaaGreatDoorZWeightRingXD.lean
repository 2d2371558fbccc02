/- XD, for the statement WeightRing: what it needs, no more. -/
import Derived.Test.YthjbpjpcddegfaaGreatDoorZWeightRingXC
import Derived.Lib.MinMax
namespace Go.Proofs.YthjbpjpcddegfaaGreatDoor.Iter
open Go.RowKit Go.Shelf
attribute [local go_sem] Oper.semAt_some
set_option linter.unusedVariables false
set_option linter.unusedSimpArgs false
theorem boxv_own {W W' : World} {row : Option Nat} {b B : Nat} {t : TypeId} {v : Value} (hv : Boxed W b t v) (hg : W.grownBy W' row) (hr : ∀ r, row = some r → B ≤ r ∧ ∃ o : Obj, W.heap[r]? = some o ∧ o.isCells = false) : Boxed W' b t v :=
  hv.kept hg fun e => by obtain ⟨_, o, ho, hc⟩ := hr b e.symm; rw [show W.heap[b]? = _ from hv] at ho; cases ho; cases hc
theorem boxv_put {W : World} {b D : Nat} {t : TypeId} {v : Value} {o : Obj} (o' : Obj) (hv : Boxed W b t v) (hD : W.heap[D]? = some o) (hc : o.isCells = false) : Boxed (W.putObj D o') b t v :=
  boxv_own (B := 0) hv (grownBy_putObj' W D o') (fun r e => by cases e; exact ⟨Nat.zero_le _, o, hD, hc⟩)
def masked (s : Nat) (a : Int) : Nat := s / 2 ^ (max a 0).toNat * 2 ^ (max a 0).toNat % 18446744073709551616
theorem masked_eq (s : Nat) (a : Int) : IntKind.u64.wrap ((s : Int) / 2 ^ (max a 0).toNat * 2 ^ (max a 0).toNat) = ((masked s a : Nat) : Int) := by
  rw [IntKind.wrap_u64]; unfold masked
  rw [Int.natCast_emod, Int.natCast_mul, Int.natCast_ediv, Int.natCast_pow]; rfl
theorem masked_lt (s : Nat) (a : Int) : masked s a < 18446744073709551616 := Nat.mod_lt _ (by decide)
def nextV (l : List Int) : Int × Bool := match l with | [] => (0, false) | x :: _ => (x, true)
set_option maxRecDepth 100000 in
set_option maxHeartbeats 2000000 in
theorem Next_far (s : Int) (a : Int) (ha : 64 ≤ a) (w : World) :
    Calls Tryz.prog 176 #[.int .u64 s, .int .i64 a] w fun e w' => e = .returned (.tuple #[.int .i64 0, .bool false]) ∧ Below w.heap.size w w' := by
  go_enter Tryz.func176, Tryz.ntmps176
  go_wp2
  exact bodyPost_ret (v := .tuple #[.int .i64 0, .bool false]) (by simp [results, Tryz.f176, go_sem]) rfl ⟨rfl, by repeat (first | exact Below.refl _ _ | (refine Below.setCell ?_ (by simp) _) | (refine Below.alloc ?_ (by simp) _))⟩
set_option maxRecDepth 100000 in
set_option maxHeartbeats 2000000 in
theorem Next_near (s : Nat) (hs : s < 18446744073709551616) (a : Int) (ha : a < 64) (w : World) (hTab : Tab w) :
    Calls Tryz.prog 176 #[.int .u64 (s : Int), .int .i64 a] w fun e w' => e = .returned (.tuple #[.int .i64 (nextV (bl (masked s a))).1, .bool (nextV (bl (masked s a))).2]) ∧ Below w.heap.size w w' := by
  refine callsIn_wide (n := 5) |>.1 ?_
  have wf : ∀ f, Fence.wide.fn f := fun _ => trivial
  have wd : Fence.wide.depth = none := rfl
  have HM := Aside0.mk (masked_eq s a)
  have hml := masked_lt s a
  obtain ⟨m, HMM⟩ : ∃ m, Aside0 (masked s a = m) := ⟨_, ⟨rfl⟩⟩
  rw [HMM.out] at HM hml ⊢
  refine callsIn_of_wp_marks Tryz.func176 rfl trivial ?_ rfl
  simp only [Tryz.ntmps176, List.size_toArray, List.length_cons, List.length_nil, Nat.reduceAdd, Nat.reduceSub, Array.replicate_succ, Array.replicate_zero, List.push_toArray, List.append_toArray, List.nil_append, List.cons_append]
  gi_wp2_with (gi_at_call 132; refine (all_in _ _ _).mono ?_; rintro e w' ⟨rfl, rfl⟩)
  rw [HM.out]
  have b1 := Boxed.new w 3 (.int .i64 0)
  have b2 := Boxed.new (w.alloc (.cells #[.int .i64 0] 3)) 4 (.bool false)
  have bN := Boxed.new ((w.alloc (.cells #[.int .i64 0] 3)).alloc (.cells #[.bool false] 4)) 26 (.int .u64 (m : Int))
  simp only [World.size_alloc] at b2 bN
  have hB0 : Below w.heap.size w (((w.alloc (.cells #[.int .i64 0] 3)).alloc (.cells #[.bool false] 4)).alloc (.cells #[.int .u64 (m : Int)] 26)) := (((Below.refl _ w).alloc (Nat.le_refl _) _).alloc (by simp) _).alloc (by simp; omega) _
  refine range_box (n := 5) bN (gf := 153) (lb := #[.pointer (some ⟨w.heap.size + 1 + 1, 0, none⟩)]) rfl (enters_of Tryz.func153 (by kernel_rfl) rfl)
    (all_gives _ (w.heap.size + 1 + 1) m hml) rfl
    (fun pre W => (pre = [] ∧ Boxed W w.heap.size 3 (.int .i64 0) ∧ Boxed W (w.heap.size + 1) 4 (.bool false)) ∧ ((∃ v, Boxed W (w.heap.size + 1 + 1) 26 v) ∧ Below w.heap.size w W))
    (fun c pre W => (c = .ret ∧ ∃ x, pre = [x] ∧ Boxed W w.heap.size 3 (.int .i64 x) ∧ Boxed W (w.heap.size + 1) 4 (.bool true)) ∧ Below w.heap.size w W)
    (OwnFrom.and (fun s W W' row h hg hr => ⟨h.1, boxv_own h.2.1 hg hr, boxv_own h.2.2 hg hr⟩) (OwnFrom.and (own_boxed _ _ _) (ownFrom_below (Nat.le_refl _) (by simp; omega))))
    (fun c => OwnFrom.and (fun s W W' row ⟨h0, x, hx, h1, h2⟩ hg hr => ⟨h0, x, hx, boxv_own h1 hg hr, boxv_own h2 hg hr⟩) (ownFrom_below (Nat.le_refl _) (by simp; omega)))
    ?abi ?abix ?tab
    ⟨⟨rfl, (b1.alloc _).alloc _, b2.alloc _⟩, ⟨_, bN⟩, hB0⟩
    (fun x => { tmps := #[.int .u64 (s : Int), .int .i64 a, undef, undef, .pointer (some ⟨w.heap.size, 0, none⟩), .pointer (some ⟨w.heap.size + 1, 0, none⟩), .int .i64 x, .int .i64 a, .bool (decide (64 ≤ a)), .int .u64 (s : Int), .int .i64 a, .int .i64 (max a 0), .int .u64 (max a 0),
      .int .u64 ((s : Int) / 2 ^ (max a 0).toNat), .int .i64 a, .int .i64 (max a 0), .int .u64 (max a 0), .int .u64 (m : Int), .func (.func 153) #[] #[.pointer (some ⟨w.heap.size + 1 + 1, 0, none⟩)], .int .i64 x, undef], defers := [] }) ?assign ?body ?done ?stop
  case abi =>
    refine abi_and ?_ (abi_and (abi_boxed _ _) (abi_below _ (by omega)))
    rintro pre W u u' ⟨h0, h1, h2⟩ hb
    exact ⟨h0, h1.kept (grownBy_setCell' _ _ _) (by simp; omega), h2.kept (grownBy_setCell' _ _ _) (by simp)⟩
  case abix =>
    refine fun c => abi_and ?_ (abi_below _ (by omega))
    rintro pre W u u' ⟨h0, x, hx, h1, h2⟩ hb
    exact ⟨h0, x, hx, h1.kept (grownBy_setCell' _ _ _) (by simp; omega), h2.kept (grownBy_setCell' _ _ _) (by simp)⟩
  case tab => exact fun pre W hp => tab_below hTab hp.2.2
  case assign =>
    intro l x W K hK
    gi_wp2
    exact hK
  case body =>
    rintro l pre x W ⟨⟨rfl, h1, h2⟩, ⟨u, hu⟩, hB⟩ hpost
    have hc1 := h1.cell
    have hf1 := h1.frozen
    have h2' := h2.kept (grownBy_setCell' W w.heap.size (.int .i64 x)) (by simp)
    have hc2 := h2'.cell
    have hf2 := h2'.frozen
    gi_wp2
    exact ⟨(KeepsOthers.setCell _ _ _).trans (KeepsOthers.setCell _ _ _), ⟨rfl, x, rfl, (h1.set _).kept (grownBy_setCell' _ _ _) (by simp), h2'.set _⟩, (hB.setCell (p := ⟨w.heap.size, 0, none⟩) (Nat.le_refl _) _).setCell (p := ⟨w.heap.size + 1, 0, none⟩) (by simp) _⟩
  case done =>
    rintro D W hD ⟨⟨h0, h1, h2⟩, _, hB⟩ hK
    have hc1 := h1.cell
    have hf1 := h1.frozen
    have h2' := h2.kept (grownBy_setCell' W w.heap.size (.int .i64 0)) (by simp)
    have hc2 := h2'.cell
    have hf2 := h2'.frozen
    gi_wp2
    have hK' := ((KeepsOthers.setCell W ⟨w.heap.size, 0, none⟩ (.int .i64 0)).trans (KeepsOthers.setCell _ ⟨w.heap.size + 1, 0, none⟩ (.bool false))).same D _ hK rfl
    refine ⟨by simp, .inl ⟨_, _, rfl, run_takeDeferred hK', ?_⟩⟩
    have e1 := (boxv_put (.deferred none) (((h1.set (.int .i64 0)).kept (grownBy_setCell' _ (w.heap.size + 1) (.bool false)) (by simp))) hK' rfl).cell
    have e2 := (boxv_put (.deferred none) (h2'.set (.bool false)) hK' rfl).cell
    refine ⟨.tuple #[.int .i64 0, .bool false], by simp [results, Tryz.f176, go_sem, e1, e2], by rw [h0]; rfl, ?_⟩
    exact ((hB.setCell (p := ⟨w.heap.size, 0, none⟩) (Nat.le_refl _) _).setCell (p := ⟨w.heap.size + 1, 0, none⟩) (by simp) _).trans (belowK_b (w := w) (Nat.le_refl _) _ D _ _ (by simp at hD; omega) hK' rfl rfl)
  case stop =>
    rintro D c pre W hD hpre ⟨⟨rfl, x, rfl, h1, h2⟩, hB⟩ hK
    gi_wp2
    refine ⟨by simp, .inl ⟨_, _, rfl, run_takeDeferred hK, ?_⟩⟩
    have e1 := (boxv_put (.deferred none) h1 hK rfl).cell
    have e2 := (boxv_put (.deferred none) h2 hK rfl).cell
    obtain ⟨rest, hrest⟩ := hpre
    refine ⟨.tuple #[.int .i64 x, .bool true], by simp [results, Tryz.f176, go_sem, e1, e2], by rw [← hrest]; rfl, ?_⟩
    exact hB.trans (belowK_b (w := w) (Nat.le_refl _) W D _ _ (by simp at hD; omega) hK rfl rfl)
end Go.Proofs.YthjbpjpcddegfaaGreatDoor.Iter
