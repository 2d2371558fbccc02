/-
  The text of a set.
-/
import Derived.Test.YtpaikjnmopkekaaDoorIterBits
namespace Go.Proofs.YtpaikjnmopkekaaDoor.Iter
open Go.RowKit Go.Shelf Go.Proofs.YtpaikjnmopkekaaDoorW.PrintWords Go.Proofs.YtpaikjnmopkekaaDoorW.PrintLast Go.Proofs.YtpaikjnmopkekaaDoorW.PrintMore
attribute [local go_sem] Oper.semAt_some
set_option linter.unusedVariables false
set_option linter.unusedSimpArgs false

theorem infoS : (Tryd.prog.info? 9).map (fun i => (i.zero, i.size, i.bytes)) = some (some (.string ⟨#[]⟩), 1, 16) := by kernel_rfl
/-! ### the text -/
abbrev Tab10 (w : World) : Prop := Go.Lib.TabIs Tryd.prog w "internal/strconv.uint64pow10" .u64 Go.Lib.pow10Tab
theorem tab10_named : Tryd.prog.globalNamed "internal/strconv.uint64pow10" = some 3 := by kernel_rfl
theorem tab10_below {w w' : World} (h : Tab10 w) (hb : Below w.heap.size w w') : Tab10 w' := Go.Joins.var_stays tab10_named h hb (Nat.le_refl _)
def numS (x : Int) : ByteArray := ⟨(Go.Lib.itoa x).toArray⟩
theorem itoa_below (x : Int) (h : 0 ≤ x ∧ x < 64) (W : World) (hT : Tab10 W) : Calls Tryd.prog 39 #[.int .i64 x] W fun e w' => e = .returned (.string (numS x)) ∧ Below W.heap.size W w' := by
  refine (Tryd.strconv_Itoa x (by omega) (by omega) W hT).mono ?_
  rintro e w' ⟨rfl, k, os, rfl⟩
  exact ⟨rfl, Go.Lib.below_grow _ _ (Nat.le_refl _) _ _⟩
def strs (l : List Int) : List ByteArray := l.map numS
def inner (s : Nat) : List UInt8 := Go.Lib.join ((strs (bl s)).map (·.data.toList)) (⟨#[44]⟩ : ByteArray).data.toList
def textB (s : Nat) : ByteArray := ((⟨#[123]⟩ : ByteArray) ++ (⟨(inner s).toArray⟩ : ByteArray)) ++ (⟨#[125]⟩ : ByteArray)
theorem join_le (sep : List UInt8) : ∀ (l : List (List UInt8)) (b : Nat), (∀ x ∈ l, x.length ≤ b) → (Go.Lib.join l sep).length ≤ l.length * (b + sep.length)
  | [], b, _ => by simp [Go.Lib.join]
  | [x], b, h => by
    have := h x (by simp)
    simp [Go.Lib.join]; omega
  | x :: y :: l, b, h => by
    have h1 := h x (by simp)
    have h2 := join_le sep (y :: l) b (fun z hz => h z (by simp [List.mem_cons] at hz ⊢; exact .inr hz))
    unfold Go.Lib.join at h2 ⊢
    rw [List.intercalate_cons_cons, List.length_append, List.length_append]
    simp only [List.length_cons] at h2 ⊢
    have : (l.length + 1 + 1) * (b + sep.length) = (l.length + 1) * (b + sep.length) + (b + sep.length) := Nat.succ_mul _ _
    omega

theorem numS_len (x : Int) (h : 0 ≤ x ∧ x < 64) : (numS x).data.toList.length ≤ 21 := by
  have := Go.Lib.itoa_length_le x (by omega) (by omega)
  simpa [numS] using this
theorem inner_len (s : Nat) : (inner s).length ≤ 2000 := by
  have h := join_le (⟨#[44]⟩ : ByteArray).data.toList ((strs (bl s)).map (·.data.toList)) 21 (by
    intro x hx
    obtain ⟨y, hy, rfl⟩ := List.mem_map.1 hx
    obtain ⟨z, hz, rfl⟩ := List.mem_map.1 hy
    exact numS_len z (bl_range s z hz))
  have h2 := bl_length s
  have e : (⟨#[44]⟩ : ByteArray).data.toList.length = 1 := rfl
  rw [e, List.length_map] at h
  have h3 : (strs (bl s)).length ≤ 64 := by unfold strs; rw [List.length_map]; exact h2
  have := Nat.mul_le_mul_right (21 + 1) h3
  unfold inner
  omega
theorem strs_snoc (l : List Int) (x : Int) : strs (l ++ [x]) = strs l ++ [numS x] := by simp [strs]
theorem grown_below {w w' : World} (h : Below w.heap.size w w') : w.grownBy w' none := ⟨h.os, h.tape, h.output, h.size, fun k hk _ => h.block k hk⟩
theorem keeps_below {w w' : World} (h : Below w.heap.size w w') : KeepsOthers w w' := ⟨h.size, fun k o hk _ => (h.block k (Array.getElem?_eq_some_iff.1 hk).1).trans hk⟩
theorem own_below {w w' : World} {base : Nat} {e : TypeId} {size n : Nat} {v : Value} {xs : List Value} (hr : w.ownsRow base e size v n xs) (h : Below w.heap.size w w') : w'.ownsRow base e size v n xs :=
  hr.kept (grown_below h) (by by_cases h : v.ownBlock = none; exact .inl h; exact .inr h)
theorem join_own (xs : List ByteArray) (v : Value) (sep : ByteArray) (base : Nat) (w : World) (hr : w.ownsRow base 9 1 v xs.length (xs.map Value.string)) (hn : xs.length ≤ 64) (hl : (Go.Lib.join (xs.map (·.data.toList)) sep.data.toList).length ≤ 140737488355328) :
    Calls Tryd.prog 40 #[v, .string sep] w fun e w' => e = .returned (.string ⟨(Go.Lib.join (xs.map (·.data.toList)) sep.data.toList).toArray⟩) ∧ Below w.heap.size w w' := by
  obtain ⟨hlen, h⟩ := hr
  rcases h with ⟨rfl, h0⟩ | ⟨g, cap, cur, rfl, _, hg, hc, hm, hs, ht⟩
  · have e0 : xs = [] := List.length_eq_zero_iff.1 h0
    subst e0
    exact (Tryd.strings_Join_none none 0 sep w).mono fun e w' ⟨he, hw⟩ => ⟨he, by rw [hw]; exact Below.refl _ _⟩
  · refine Tryd.strings_Join g 0 cap xs sep w (fun j x hx => ?_) (Array.getElem?_eq_some_iff.1 hg).1 (by omega) hc hl
    unfold World.cell?
    simp only [hg, Option.isSome_none, Bool.false_eq_true, if_false, Nat.zero_add]
    have hj : j < xs.length := (List.getElem?_eq_some_iff.1 hx).1
    have h1 : (cur.toList.take (xs.length * 1))[j]? = some (.string x) := by rw [ht, List.getElem?_map, hx]; rfl
    rw [List.getElem?_take_of_lt (by omega)] at h1
    simpa using h1
set_option maxRecDepth 100000 in
set_option maxHeartbeats 4000000 in
theorem Text_calls (s : Nat) (hs : s < 18446744073709551616) (w : World) (hTab : Tab w) (hT10 : Tab10 w) :
    Calls Tryd.prog 29 #[.int .u64 (s : Int)] w fun e w' => e = .returned (.string (textB s)) ∧ Below w.heap.size w w' := by
  refine callsIn_wide (n := 5) |>.1 ?_
  have wf : ∀ f, Fence.wide.fn f := fun _ => trivial
  have wd : Fence.wide.depth = none := rfl
  obtain ⟨i0, hi, hz0, hz1, hz2⟩ := info_parts infoS
  refine callsIn_of_wp_marks Tryd.func29 rfl trivial ?_ rfl
  simp only [Tryd.ntmps29, List.size_toArray, List.length_cons, List.length_nil, Nat.reduceAdd, Nat.reduceSub, Array.replicate_succ, Array.replicate_zero, List.push_toArray, List.append_toArray, List.nil_append, List.cons_append]
  gi_wp2_with (gi_at_call 32; refine (all_in _ _ _).mono ?_; rintro e w' ⟨rfl, rfl⟩)
  have bO := Boxed.new w 65 (.slice none 0 0)
  have bN := Boxed.new (w.alloc (.cells #[.slice none 0 0] 65)) 23 (.int .u64 (s : Int))
  rw [World.size_alloc] at bN
  have hB0 : Below w.heap.size w ((w.alloc (.cells #[.slice none 0 0] 65)).alloc (.cells #[.int .u64 (s : Int)] 23)) := ((Below.refl _ w).alloc (Nat.le_refl _) _).alloc (by simp) _
  refine range_box (n := 5) bN (gf := 41) (lb := #[.pointer (some ⟨w.heap.size + 1, 0, none⟩)]) rfl (enters_of Tryd.func41 (by kernel_rfl) rfl)
    (all_gives _ (w.heap.size + 1) s hs) rfl
    (fun pre W => (∃ v, Boxed W w.heap.size 65 v ∧ W.ownsRow w.heap.size 9 1 v (strs pre).length ((strs pre).map Value.string) ∧ True) ∧ ((∃ v, Boxed W (w.heap.size + 1) 23 v) ∧ Below w.heap.size w W))
    (fun _ _ _ => False)
    (OwnFrom.and (Own.from (holdsRow_own w.heap.size w.heap.size 65 9 1 (fun (pre : List Int) => (strs pre).length) (fun pre => (strs pre).map Value.string) (fun _ _ => True)) _) (OwnFrom.and (own_boxed _ _ _) (ownFrom_below (Nat.le_refl _) (by simp; omega))))
    (fun _ _ _ _ _ hs _ _ => hs) ?abi (fun _ _ _ _ _ hs _ => hs) ?tab
    ⟨⟨_, bO.alloc _, World.ownsRow_nil _ _ _ _, trivial⟩, ⟨_, bN⟩, hB0⟩
    (fun x => { tmps := #[.int .u64 (s : Int), undef, .string ⟨#[]⟩, .pointer (some ⟨w.heap.size, 0, none⟩), .int .i64 x, .int .u64 (s : Int), .func (.func 41) #[] #[.pointer (some ⟨w.heap.size + 1, 0, none⟩)], .int .i64 x, undef, undef, undef, undef, undef, undef, undef, undef, undef], defers := [] }) ?assign ?body ?done ?stop
  case abi =>
    refine abi_and ?_ (abi_and (abi_boxed _ _) (abi_below _ (by omega)))
    rintro pre W u u' ⟨v, hv, hrow, _⟩ hb
    exact ⟨v, hv.kept (grownBy_setCell' _ _ _) (by simp), hrow.kept (grownBy_setCell' W _ u') (.inr (hb.not_row (by decide) hrow).symm), trivial⟩
  case tab => exact fun pre W hp => tab_below hTab hp.2.2
  case assign =>
    intro l x W K hK
    gi_wp2
    exact hK
  case body =>
    rintro l pre x W ⟨⟨v, hv, hrow, _⟩, ⟨u, hu⟩, hB⟩ hpost
    obtain ⟨post, hp⟩ := hpost
    have hpl : (strs pre).length < 64 := by
      have := bl_length s
      rw [hp, List.length_append, List.length_cons] at this
      unfold strs; rw [List.length_map]; omega
    have hxr : 0 ≤ x ∧ x < 64 := bl_range s x (by rw [hp]; simp)
    clear hp
    have hTW : Tab10 W.drew := tab10_below hT10 hB.drew
    have hc := hv.cell
    have hvd : Boxed W.drew w.heap.size 65 v := hv
    have hrd : W.drew.ownsRow w.heap.size 9 1 v (strs pre).length ((strs pre).map Value.string) := hrow
    have hmx : Tryd.prog.follows .mixedOrders = true := by kernel_rfl
    gi_wp2
    gi_region_with_o (gi_at_call 39; refine (CallsIn.inRound l (callsIn_wide.2 (itoa_below x hxr _ hTW))).mono ?_; rintro e W1 ⟨rfl, hb1⟩; have hv1 : Boxed W1 w.heap.size 65 v := hvd.kept (grown_below hb1) (by simp); have hc1 := hv1.cell; have hzz : w.heap.size < W1.heap.size := hv1.lt; have hr1 := own_below hrd hb1; obtain ⟨v', w1, hrun, hown', hgrow, _⟩ := run_append_own (P := Tryd.prog) (w := W1.alloc (.cells #[.string (numS x)] 9)) w.heap.size 65 65 9 i0 (.string ⟨#[]⟩) 1 16 Tryd.underlying65 hi hz0 hz1 hz2 rfl (by decide) v _ _ (hr1.alloc _) ⟨W1.heap.size, 0, none⟩ 1 1 [.string (numS x)] rfl (cell_one_new _ _ _) (by simp [Value.oneCell']) (by unfold maxLen; omega) (by omega) (by have := hB.size; have := hb1.size; simp at this ⊢; omega); obtain ⟨g', cap', rfl⟩ := ownsRow_succ hown'; obtain ⟨hv1', hv2, hr2, hk2, hb2⟩ := hv1.appended (by decide) hr1 (by have := hB.size; have := hb1.size; simp at this ⊢; omega) (Nat.le_refl _) hown' hgrow; have hc1' := hv1'.cell; have hf1' := hv1'.frozen; simp [go_sem] at hrun)
    all_goals
      have hu1 : Boxed W1 (w.heap.size + 1) 23 u := Boxed.kept (W := W.drew) hu (grown_below hb1) (by simp)
      have hbs : ((w1.setCell ⟨w.heap.size, 0, none⟩ (.slice (some ⟨g', 0, none⟩) ((strs pre).length + 1) cap'))).heap[w.heap.size + 1]? = W1.heap[w.heap.size + 1]? :=
        (Below.heap_setCell _ _ _ _ (by simp)).trans ((hgrow.block _ (by simp; have := hu1.lt; omega) (hu1.not_row (by decide) hr1)).trans (Below.heap_alloc _ _ _ hu1.lt))
      have hbs2 : W1.heap[w.heap.size + 1]? = W.heap[w.heap.size + 1]? := hb1.block _ hu.lt
      exact ⟨((KeepsOthers.drew W).trans (keeps_below hb1)).trans hk2, hbs.trans hbs2, ⟨_, hv2, by rw [strs_snoc]; simpa using hr2, trivial⟩, ⟨u, hbs.trans hu1⟩, (hB.drew.trans (hb1.mono hB.size)).trans hb2⟩
  case done =>
    rintro D W hD ⟨⟨v, hv, hrow, _⟩, _, hB⟩ hK
    have hc := hv.cell
    have hln := inner_len s
    have hn64 : (strs (bl s)).length ≤ 64 := by have := bl_length s; unfold strs; rw [List.length_map]; exact this
    obtain ⟨J, hJ⟩ : ∃ J : ByteArray, J = ⟨(inner s).toArray⟩ := ⟨_, rfl⟩
    have hJs : J.size ≤ 2000 := by rw [hJ]; exact hln
    have hsz : ((⟨#[123]⟩ : ByteArray) ++ J).size = 1 + J.size := by rw [ByteArray.size_append]; rfl
    have HJ : Aside0 (Calls Tryd.prog 40 #[v, .string ⟨#[44]⟩] W fun e w' => e = .returned (.string J) ∧ Below W.heap.size W w') := ⟨by rw [hJ]; exact join_own (strs (bl s)) v ⟨#[44]⟩ w.heap.size W hrow hn64 (Nat.le_trans hln (by decide))⟩
    have HT : Aside0 (textB s = ((⟨#[123]⟩ : ByteArray) ++ J) ++ (⟨#[125]⟩ : ByteArray)) := ⟨by rw [hJ]; rfl⟩
    clear hJ
    gi_wp2_with (gi_at_call 40; refine (callsIn_wide.2 HJ.out).mono ?_; rintro e W1 ⟨rfl, hb1⟩)
    have hK1 : W1.heap[D]? = some (.deferred (some [])) := (hb1.block D (Array.getElem?_eq_some_iff.1 hK).1).trans hK
    refine ⟨by simp, .inl ⟨_, _, rfl, run_takeDeferred hK1, ?_⟩⟩
    exact ⟨_, results_tmp rfl _ _ _, by rw [HT.out]; rfl, (hB.trans (hb1.mono hB.size)).trans (belowK_b (w := w) (Nat.le_refl _) W1 D _ _ (by simp at hD; omega) hK1 rfl rfl)⟩
  case stop =>
    rintro D c pre W _ _ h _
    exact h.elim
end Go.Proofs.YtpaikjnmopkekaaDoor.Iter
