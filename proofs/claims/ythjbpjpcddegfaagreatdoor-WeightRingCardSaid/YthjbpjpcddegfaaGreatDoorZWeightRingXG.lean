/- XG, for the statement WeightRing: what it needs, no more. -/
import Derived.Test.YthjbpjpcddegfaaGreatDoorZWeightRingXE
import Derived.Test.YthjbpjpcddegfaaGreatDoorZWeightRingRC
import Derived.Test.YthjbpjpcddegfaaGreatDoorZWeightRingNH
namespace Go.Proofs.YthjbpjpcddegfaaGreatDoor.Iter
open Go.RowKit Go.Shelf
attribute [local go_sem] Oper.semAt_some
set_option linter.unusedVariables false
set_option linter.unusedSimpArgs false
theorem infoS : (Tryz.prog.info? 9).map (fun i => (i.zero, i.size, i.bytes)) = some (some (.string ⟨#[]⟩), 1, 16) := by kernel_rfl
def numS (_ : Int) : ByteArray := ⟨#[48]⟩
def strs (l : List Int) : List ByteArray := l.map numS
open Go.RM in
theorem k_itoa (X : FuncId → List PV → Heap → PV → Heap → Prop) : KOk Tryz.prog X (93, [.val (.int .i64 0)], .val (.string ⟨#[48]⟩)) := known (fun _ => true) [] (fun _ h => by cases h) 100000 40 (by kernel_rfl)
open Go.RM in
theorem k_join (X : FuncId → List PV → Heap → PV → Heap → Prop) : KOk Tryz.prog X (95, [.rows [[.val (.string ⟨#[48]⟩)]], .val (.string ⟨#[44]⟩)], .val (.string ⟨#[48]⟩)) := known (fun _ => true) [] (fun _ h => by cases h) 100000 40 (by kernel_rfl)
open Go.RM Go.RM.Read in
theorem itoa_below (x : Int) (h : x = 0) (W : World) : Calls Tryz.prog 93 #[.int .i64 x] W fun e w' => e = .returned (.string (numS x)) ∧ Below W.heap.size W w' := by
  subst h
  exact calls_of (by kernel_rfl) (k_itoa _).2.2 (argsRep_cons (.val _) argsRep_nil)
theorem strs_snoc (l : List Int) (x : Int) : strs (l ++ [x]) = strs l ++ [numS x] := by simp [strs]
theorem grown_below {w w' : World} (h : Below w.heap.size w w') : w.grownBy w' none := ⟨h.os, h.tape, h.output, h.size, fun k hk _ => h.block k hk⟩
theorem keeps_below {w w' : World} (h : Below w.heap.size w w') : KeepsOthers w w' := ⟨h.size, fun k o hk _ => (h.block k (Array.getElem?_eq_some_iff.1 hk).1).trans hk⟩
theorem own_below {w w' : World} {base : Nat} {e : TypeId} {size n : Nat} {v : Value} {xs : List Value} (hr : w.ownsRow base e size v n xs) (h : Below w.heap.size w w') : w'.ownsRow base e size v n xs :=
  hr.kept (grown_below h) (by by_cases h : v.ownBlock = none; exact .inl h; exact .inr h)
open Go.RM Go.RM.Read in
theorem join_one (v : Value) (base : Nat) (w : World) (hr : w.ownsRow base 9 1 v 1 [.string ⟨#[48]⟩]) :
    Calls Tryz.prog 95 #[v, .string ⟨#[44]⟩] w fun e w' => e = .returned (.string ⟨#[48]⟩) ∧ Below w.heap.size w w' := by
  obtain ⟨hlen, h⟩ := hr
  rcases h with ⟨rfl, h0⟩ | ⟨g, cap, cur, rfl, _, hg, hc, hm, hs, ht⟩
  · cases h0
  · have hcur : cur[0]? = some (.string ⟨#[48]⟩) := by
      have h1 : (cur.toList.take (1 * 1))[0]? = some (.string ⟨#[48]⟩) := by rw [ht]; rfl
      rw [List.getElem?_take_of_lt (by omega)] at h1
      simpa using h1
    have hw : whole w g 0 = some (.string ⟨#[48]⟩) := by unfold whole; rw [hg]; exact hcur
    refine calls_of (by kernel_rfl) (k_join _).2.2 (argsRep_cons ?_ (argsRep_cons (.val _) argsRep_nil))
    refine .rows [[.val (.string ⟨#[48]⟩)]] g 0 cap 1 (fun _ _ => .string ⟨#[48]⟩) (by simp) (fun i j e p he hp => ?_) (fun i j e p he hp => ?_) hc
    · have hi : i = 0 := by have := (List.getElem?_eq_some_iff.1 he).1; simp at this; exact this
      subst hi; cases he
      have hj : j = 0 := by have := (List.getElem?_eq_some_iff.1 hp).1; simp at this; exact this
      subst hj
      exact ⟨hw, rfl⟩
    · have hi : i = 0 := by have := (List.getElem?_eq_some_iff.1 he).1; simp at this; exact this
      subst hi; cases he
      have hj : j = 0 := by have := (List.getElem?_eq_some_iff.1 hp).1; simp at this; exact this
      subst hj; cases hp
      exact .val _
theorem bl_one : bl 1 = [0] := by decide
theorem one_mem {pre post : List Int} {x : Int} (h : bl 1 = pre ++ x :: post) : pre = [] ∧ x = 0 := by
  rw [bl_one] at h
  cases pre with
  | nil => injection h with h1 h2; exact ⟨rfl, h1.symm⟩
  | cons y l => injection h with h1 h2; cases l <;> cases h2
set_option maxRecDepth 100000 in
set_option maxHeartbeats 4000000 in
theorem Text_one (w : World) (hTab : Tab w) :
    Calls Tryz.prog 94 #[.int .u64 1] w fun e w' => e = .returned (.string ⟨#[123, 48, 125]⟩) ∧ Below w.heap.size w w' := by
  refine callsIn_wide (n := 5) |>.1 ?_
  have wf : ∀ f, Fence.wide.fn f := fun _ => trivial
  have wd : Fence.wide.depth = none := rfl
  obtain ⟨i0, hi, hz0, hz1, hz2⟩ := info_parts infoS
  refine callsIn_of_wp_marks Tryz.func94 rfl trivial ?_ rfl
  simp only [Tryz.ntmps94, List.size_toArray, List.length_cons, List.length_nil, Nat.reduceAdd, Nat.reduceSub, Array.replicate_succ, Array.replicate_zero, List.push_toArray, List.append_toArray, List.nil_append, List.cons_append]
  gi_wp2_with (gi_at_call 132; refine (all_in _ _ _).mono ?_; rintro e w' ⟨rfl, rfl⟩)
  have bO := Boxed.new w 116 (.slice none 0 0)
  have bN := Boxed.new (w.alloc (.cells #[.slice none 0 0] 116)) 26 (.int .u64 1)
  rw [World.size_alloc] at bN
  have hB0 : Below w.heap.size w ((w.alloc (.cells #[.slice none 0 0] 116)).alloc (.cells #[.int .u64 1] 26)) := ((Below.refl _ w).alloc (Nat.le_refl _) _).alloc (by simp) _
  refine range_box (n := 5) bN (gf := 153) (lb := #[.pointer (some ⟨w.heap.size + 1, 0, none⟩)]) rfl (enters_of Tryz.func153 (by kernel_rfl) rfl)
    (all_gives _ (w.heap.size + 1) 1 (by decide)) rfl
    (fun pre W => (∃ v, Boxed W w.heap.size 116 v ∧ W.ownsRow w.heap.size 9 1 v (strs pre).length ((strs pre).map Value.string) ∧ True) ∧ ((∃ v, Boxed W (w.heap.size + 1) 26 v) ∧ Below w.heap.size w W))
    (fun _ _ _ => False)
    (OwnFrom.and (Own.from (holdsRow_own w.heap.size w.heap.size 116 9 1 (fun (pre : List Int) => (strs pre).length) (fun pre => (strs pre).map Value.string) (fun _ _ => True)) _) (OwnFrom.and (own_boxed _ _ _) (ownFrom_below (Nat.le_refl _) (by simp; omega))))
    (fun _ _ _ _ _ hs _ _ => hs) ?abi (fun _ _ _ _ _ hs _ => hs) ?tab
    ⟨⟨_, bO.alloc _, World.ownsRow_nil _ _ _ _, trivial⟩, ⟨_, bN⟩, hB0⟩
    (fun x => { tmps := #[.int .u64 1, undef, .string ⟨#[]⟩, .pointer (some ⟨w.heap.size, 0, none⟩), .int .i64 x, .int .u64 1, .func (.func 153) #[] #[.pointer (some ⟨w.heap.size + 1, 0, none⟩)], .int .i64 x, undef, undef, undef, undef, undef, undef, undef, undef, undef], defers := [] }) ?assign ?body ?done ?stop
  case abi =>
    refine abi_and ?_ (abi_and (abi_boxed _ _) (abi_below _ (by omega)))
    rintro pre W u u' ⟨v, hv, hrow, _⟩ hb
    exact ⟨v, hv.kept (grownBy_setCell' _ _ _) (by simp), hrow.kept (grownBy_setCell' W _ u') (.inr (hb.not_row (by decide) hrow).symm), trivial⟩
  case tab => exact fun pre W hp => tab_below hTab hp.2.2
  case assign =>
    intro l x W K hK
    gi_wp2
    exact hK
  case body =>
    rintro l pre x W ⟨⟨v, hv, hrow, _⟩, ⟨u, hu⟩, hB⟩ hpost
    obtain ⟨post, hp⟩ := hpost
    obtain ⟨hpre, hx⟩ := one_mem hp
    have hpl : (strs pre).length < 64 := by rw [hpre]; decide
    clear hpre
    subst hx
    clear hp
    have hc := hv.cell
    have hvd : Boxed W.drew w.heap.size 116 v := hv
    have hrd : W.drew.ownsRow w.heap.size 9 1 v (strs pre).length ((strs pre).map Value.string) := hrow
    have hmx : Tryz.prog.follows .mixedOrders = true := by kernel_rfl
    gi_wp2
    gi_region_with_o (gi_at_call 93; refine (CallsIn.inRound l (callsIn_wide.2 (itoa_below 0 rfl _))).mono ?_; rintro e W1 ⟨rfl, hb1⟩; have hv1 : Boxed W1 w.heap.size 116 v := hvd.kept (grown_below hb1) (by simp); have hc1 := hv1.cell; have hzz : w.heap.size < W1.heap.size := hv1.lt; have hr1 := own_below hrd hb1; obtain ⟨v', w1, hrun, hown', hgrow, _⟩ := run_append_own (P := Tryz.prog) (w := W1.alloc (.cells #[.string (numS 0)] 9)) w.heap.size 116 116 9 i0 (.string ⟨#[]⟩) 1 16 Tryz.underlying116 hi hz0 hz1 hz2 rfl (by decide) v _ _ (hr1.alloc _) ⟨W1.heap.size, 0, none⟩ 1 1 [.string (numS 0)] rfl (cell_one_new _ _ _) (by simp [Value.oneCell']) (by unfold maxLen; omega) (by omega) (by have := hB.size; have := hb1.size; simp at this ⊢; omega); obtain ⟨g', cap', rfl⟩ := ownsRow_succ hown'; obtain ⟨hv1', hv2, hr2, hk2, hb2⟩ := hv1.appended (by decide) hr1 (by have := hB.size; have := hb1.size; simp at this ⊢; omega) (Nat.le_refl _) hown' hgrow; have hc1' := hv1'.cell; have hf1' := hv1'.frozen; simp [go_sem] at hrun)
    all_goals
      have hu1 : Boxed W1 (w.heap.size + 1) 26 u := Boxed.kept (W := W.drew) hu (grown_below hb1) (by simp)
      have hbs : ((w1.setCell ⟨w.heap.size, 0, none⟩ (.slice (some ⟨g', 0, none⟩) ((strs pre).length + 1) cap'))).heap[w.heap.size + 1]? = W1.heap[w.heap.size + 1]? :=
        (Below.heap_setCell _ _ _ _ (by simp)).trans ((hgrow.block _ (by simp; have := hu1.lt; omega) (hu1.not_row (by decide) hr1)).trans (Below.heap_alloc _ _ _ hu1.lt))
      have hbs2 : W1.heap[w.heap.size + 1]? = W.heap[w.heap.size + 1]? := hb1.block _ hu.lt
      exact ⟨((KeepsOthers.drew W).trans (keeps_below hb1)).trans hk2, hbs.trans hbs2, ⟨_, hv2, by rw [strs_snoc]; simpa using hr2, trivial⟩, ⟨u, hbs.trans hu1⟩, (hB.drew.trans (hb1.mono hB.size)).trans hb2⟩
  case done =>
    rintro D W hD ⟨⟨v, hv, hrow, _⟩, _, hB⟩ hK
    have hc := hv.cell
    rw [bl_one] at hrow
    have HJ : Aside0 (Calls Tryz.prog 95 #[v, .string ⟨#[44]⟩] W fun e w' => e = .returned (.string ⟨#[48]⟩) ∧ Below W.heap.size W w') := ⟨join_one v w.heap.size W hrow⟩
    gi_wp2_with (gi_at_call 95; refine (callsIn_wide.2 HJ.out).mono ?_; rintro e W1 ⟨rfl, hb1⟩)
    have hK1 : W1.heap[D]? = some (.deferred (some [])) := (hb1.block D (Array.getElem?_eq_some_iff.1 hK).1).trans hK
    refine ⟨by simp, .inl ⟨_, _, rfl, run_takeDeferred hK1, ?_⟩⟩
    exact ⟨_, results_tmp rfl _ _ _, rfl, (hB.trans (hb1.mono hB.size)).trans (belowK_b (w := w) (Nat.le_refl _) W1 D _ _ (by simp at hD; omega) hK1 rfl rfl)⟩
  case stop =>
    rintro D c pre W _ _ h _
    exact h.elim
end Go.Proofs.YthjbpjpcddegfaaGreatDoor.Iter
