/- XF, for the statement WeightRing: what it needs, no more. -/
import Derived.Test.YthjbpjpcddegfaaGreatDoorZWeightRingXE
namespace Go.Proofs.YthjbpjpcddegfaaGreatDoor.Iter
open Go.RowKit Go.Shelf
attribute [local go_sem] Oper.semAt_some
set_option linter.unusedVariables false
set_option linter.unusedSimpArgs false
def orAll (rows : List Int) (g : Int) (l : List Int) : Int := l.foldl (fun o i => Go.bits .or .u64 o (rows.getD i.toNat 0)) g
theorem orAll_snoc (rows : List Int) (g : Int) (l : List Int) (x : Int) : orAll rows g (l ++ [x]) = Go.bits .or .u64 (orAll rows g l) (rows.getD x.toNat 0) := by simp [orAll]
set_option maxRecDepth 100000 in
set_option maxHeartbeats 4000000 in
theorem makes_calls (g : Int) (rows : List Int) (ad : Option Addr) (cap : Nat) (s : Nat) (hs : s < 18446744073709551616) (w : World) (hTab : Tab w)
    (hrow : ∀ (j : Nat) (x : Int), rows[j]? = some x → ∃ b o, ad = some ⟨b, o, none⟩ ∧ w.cell? ⟨b, o + j, none⟩ = some (.int .u64 x)) (hin : ∀ x ∈ bl s, x < (rows.length : Int)) :
    Calls Tryz.prog 128 #[.agg #[.int .u64 g, .slice ad rows.length cap], .int .u64 (s : Int)] w fun e w' => e = .returned (.int .u64 (orAll rows g (bl s))) ∧ Below w.heap.size w w' := by
  refine callsIn_wide (n := 5) |>.1 ?_
  have wf : ∀ f, Fence.wide.fn f := fun _ => trivial
  have wd : Fence.wide.depth = none := rfl
  refine callsIn_of_wp_marks Tryz.func128 rfl trivial ?_ rfl
  simp only [Tryz.ntmps128, List.size_toArray, List.length_cons, List.length_nil, Nat.reduceAdd, Nat.reduceSub, Array.replicate_succ, Array.replicate_zero, List.push_toArray, List.append_toArray, List.nil_append, List.cons_append]
  gi_wp2_with (gi_at_call 152; refine (each_in _ _ _).mono ?_; rintro e w' ⟨rfl, rfl⟩)
  have b0 : (w.alloc (.cells #[.int .u64 g, .slice ad rows.length cap] 29)).heap[w.heap.size]? = some (.cells #[.int .u64 g, .slice ad rows.length cap] 29 (0, 0)) := World.alloc_heap_new _ _
  have b1 := Boxed.new (w.alloc (.cells #[.int .u64 g, .slice ad rows.length cap] 29)) 26 (.int .u64 g)
  have bN := Boxed.new ((w.alloc (.cells #[.int .u64 g, .slice ad rows.length cap] 29)).alloc (.cells #[.int .u64 g] 26)) 26 (.int .u64 (s : Int))
  simp only [World.size_alloc] at b1 bN
  have hB0 : Below w.heap.size w (((w.alloc (.cells #[.int .u64 g, .slice ad rows.length cap] 29)).alloc (.cells #[.int .u64 g] 26)).alloc (.cells #[.int .u64 (s : Int)] 26)) := (((Below.refl _ w).alloc (Nat.le_refl _) _).alloc (by simp) _).alloc (by simp; omega) _
  have HR := Aside0.mk hrow
  have HI := Aside0.mk hin
  clear hrow hin
  refine range_free (n := 5) bN (gf := 175) (lb := #[.pointer (some ⟨w.heap.size + 1 + 1, 0, none⟩)]) rfl (enters_of Tryz.func175 (by kernel_rfl) rfl)
    (each_gives _ (w.heap.size + 1 + 1) s hs) rfl
    (fun pre W => Boxed W (w.heap.size + 1) 26 (.int .u64 (orAll rows g pre)) ∧ W.heap[w.heap.size]? = some (.cells #[.int .u64 g, .slice ad rows.length cap] 29 (0, 0)) ∧ Below w.heap.size w W)
    (fun _ _ _ => False)
    ?own (fun _ _ _ _ _ hs _ _ => hs) ?grows ?tab
    ⟨b1.alloc _, (Below.heap_alloc _ _ _ (by simp; omega)).trans ((Below.heap_alloc _ _ _ (by simp)).trans b0), hB0⟩
    (fun x => { tmps := #[.agg #[.int .u64 g, .slice ad rows.length cap], .int .u64 (s : Int), .pointer (some ⟨w.heap.size, 0, none⟩), undef, .int .u64 0, .pointer (some ⟨w.heap.size + 1, 0, none⟩), .int .i64 x, .pointer (some ⟨w.heap.size, 0, none⟩), .int .u64 g, .int .u64 (s : Int),
      .func (.func 175) #[] #[.pointer (some ⟨w.heap.size + 1 + 1, 0, none⟩)], .int .i64 x, undef, undef, undef, undef, undef, undef, undef, undef], defers := [] }) ?assign ?body ?done ?stop
  case own =>
    refine OwnFrom.and (fun p W W' row h hg hr => boxv_own h hg hr) (OwnFrom.and (fun p W W' row h hg hr => ?_) (ownFrom_below (Nat.le_refl _) (by simp; omega)))
    have hlt : w.heap.size < W.heap.size := (Array.getElem?_eq_some_iff.1 h).1
    refine (hg.block _ hlt fun e => ?_).trans h
    obtain ⟨_, o, ho, hc⟩ := hr _ e.symm
    rw [h] at ho; cases ho; cases hc
  case grows =>
    rintro p A A' ⟨h1, h2, h3⟩ hb
    exact ⟨(hb.block _ h1.lt).trans h1, (hb.block _ (Array.getElem?_eq_some_iff.1 h2).1).trans h2, h3.trans (hb.mono h3.size)⟩
  case tab => exact fun pre W hp => tab_below hTab hp.2.2
  case assign =>
    intro l x W K hK
    gi_wp2
    exact hK
  case body =>
    rintro l pre x W ⟨h1, h2, h3⟩ hpost
    obtain ⟨post, hp⟩ := hpost
    have hmem : x ∈ bl s := by rw [hp]; simp
    have hx0 := (bl_range s x hmem).1
    have hx1 := HI.out x hmem
    have hxn : x.toNat < rows.length := by omega
    obtain ⟨b, o, rfl, hcell⟩ := HR.out x.toNat (rows.getD x.toNat 0) (by rw [List.getD_eq_getElem?_getD, List.getElem?_eq_getElem hxn]; rfl)
    have hcx : W.cell? ⟨b, o + x.toNat, none⟩ = some (.int .u64 (rows.getD x.toNat 0)) := by
      rw [← hcell]
      have hlt : b < w.heap.size := by
        unfold World.cell? at hcell
        cases hq : w.heap[b]? with
        | none => rw [hq] at hcell; simp at hcell
        | some ob => exact (Array.getElem?_eq_some_iff.1 hq).1
      unfold World.cell?
      rw [h3.block _ hlt]
    have HP : Aside0 (orAll rows g (pre ++ [x]) = Go.bits .or .u64 (orAll rows g pre) rows[x.toNat]) := ⟨by rw [orAll_snoc, List.getD_eq_getElem?_getD, List.getElem?_eq_getElem hxn]; rfl⟩
    clear hcell hp hmem
    have hc1 : W.drew.cell? ⟨w.heap.size + 1, 0, none⟩ = some (.int .u64 (orAll rows g pre)) := h1.cell
    have hf1 : W.drew.frozen? ⟨w.heap.size + 1, 0, none⟩ = false := h1.frozen
    have hcf : W.drew.cell? ⟨w.heap.size, 1, none⟩ = some (.slice (some ⟨b, o, none⟩) rows.length cap) := by
      show W.cell? _ = _
      simp [World.cell?, h2]
    have hcx' : W.drew.cell? ⟨b, o + x.toNat, none⟩ = some (.int .u64 (rows.getD x.toNat 0)) := hcx
    have hmx : Tryz.prog.follows .mixedOrders = true := by kernel_rfl
    gi_wp2
    gi_region
    all_goals
      refine ⟨⟨(KeepsOthers.setCell W ⟨w.heap.size + 1, 0, none⟩ _).1, (KeepsOthers.setCell W ⟨w.heap.size + 1, 0, none⟩ _).2⟩, Below.heap_setCell W ⟨w.heap.size + 1, 0, none⟩ _ _ (by simp), ?_, ?_, ?_⟩
      · rw [HP.out]; exact h1.set _
      · exact (Below.heap_setCell W ⟨w.heap.size + 1, 0, none⟩ _ _ (by simp)).trans h2
      · have hS := h3.setCell (p := ⟨w.heap.size + 1, 0, none⟩) (by simp) (.int .u64 (Go.bits .or .u64 (orAll rows g pre) rows[x.toNat]))
        exact ⟨hS.os, hS.tape, hS.output, hS.size, hS.block⟩
  case done =>
    rintro D W hD ⟨h1, h2, hB⟩ hK
    have hc1 := h1.cell
    gi_wp2
    refine ⟨by simp, .inl ⟨_, _, rfl, run_takeDeferred hK, ?_⟩⟩
    exact ⟨_, results_tmp rfl _ _ _, rfl, hB.trans (belowK_b (w := w) (Nat.le_refl _) W D _ _ (by simp at hD; omega) hK rfl rfl)⟩
  case stop =>
    rintro D c pre W _ _ h _
    exact h.elim
end Go.Proofs.YthjbpjpcddegfaaGreatDoor.Iter
