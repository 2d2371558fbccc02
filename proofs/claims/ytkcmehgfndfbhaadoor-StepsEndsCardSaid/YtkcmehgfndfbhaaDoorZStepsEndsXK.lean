/- XK, for the statement StepsEnds: what it needs, no more. -/
import Derived.Test.YtkcmehgfndfbhaaDoorZStepsEndsRD
import Derived.Test.YtkcmehgfndfbhaaDoorProg
import Derived.Shelf.Spec.SlicesGrow
namespace Go.Proofs
open Go.Shelf
def YtkcmehgfndfbhaaDoor.growI_ren : Go.Shelf.Ren := ⟨fun | 4 => 38 | n => n, fun | 22 => 29 | 25 => 3 | 3 => 3 | 4 => 4 | 9 => 9 | 20 => 20 | 0 => 0 | n => n, fun | n => n⟩
theorem YtkcmehgfndfbhaaDoor.growI : Go.Proofs.Lays8.n4 Tryd.prog YtkcmehgfndfbhaaDoor.growI_ren := {
  mixed := by kernel_rfl
  f4 := ⟨Tryd.f38.name, by decide, Tryd.func38.trans (congrArg some (by kernel_rfl))⟩
  t0 := Tryd.underlying0
  a0 := Tryd.isAgg0
  z0 := Tryd.sizeOf0
  v0 := Tryd.zeroValue0
  t3 := Tryd.underlying3
  a3 := Tryd.isAgg3
  z3 := Tryd.sizeOf3
  v3 := Tryd.zeroValue3
  t4 := Tryd.underlying4
  a4 := Tryd.isAgg4
  z4 := Tryd.sizeOf4
  v4 := Tryd.zeroValue4
  t9 := Tryd.underlying9
  a9 := Tryd.isAgg9
  z9 := Tryd.sizeOf9
  v9 := Tryd.zeroValue9
  t20 := Tryd.underlying20
  a20 := Tryd.isAgg20
  z20 := Tryd.sizeOf20
  v20 := Tryd.zeroValue20
  t22 := Tryd.underlying29
  a22 := Tryd.isAgg29
  z22 := Tryd.sizeOf29
  v22 := Tryd.zeroValue29 }
end Go.Proofs
namespace Go.Proofs.YtkcmehgfndfbhaaDoor.Iter
open Go.RowKit Go.Shelf
set_option linter.unusedVariables false
theorem infoInt : (Tryd.prog.info? 3).map (fun i => (i.zero, i.size, i.bytes)) = some (some (.int .i64 0), 1, 8) := by kernel_rfl
theorem Grow_nil (n : Int) (h0 : 0 ≤ n) (hB : n * 8 ≤ 140737488355328) (w : World) :
    Calls Tryd.prog 38 #[.slice none 0 0, .int .i64 n] w fun e w' => Below w.heap.size w w' ∧
      (e = .returned (.slice none 0 0) ∨ ∃ (cap : Nat) (arr : Array Value) (el : TypeId), e = .returned (.slice (some ⟨w.heap.size, 0, none⟩) 0 cap) ∧ w'.heap[w.heap.size]? = some (.cells arr el (0, 0)) ∧ arr.size = cap * 1 ∧ cap ≤ maxLen) := by
  obtain ⟨k, rfl⟩ : ∃ k : Nat, n = k := ⟨n.toNat, by omega⟩
  by_cases hk : k = 0
  · subst hk
    refine (Any8.slices_Grow_room YtkcmehgfndfbhaaDoor.growI none 0 0 0 w (by omega) (by omega) (by omega) (by omega)).mono ?_
    rintro e w' ⟨rfl, rfl⟩
    exact ⟨.refl _ _, .inl rfl⟩
  · obtain ⟨i0, hi, hz0, hz1, hz2⟩ := info_parts infoInt
    refine (Any8.slices_Grow_grow YtkcmehgfndfbhaaDoor.growI i0 (.int .i64 0) hi hz0 (by omega) none 0 0 k [] w (by omega) (by omega) (by rw [hz2]; omega) (by omega) (by simp) (fun _ => rfl) (fun a ha => by cases ha)).mono ?_
    rintro e w' ⟨rfl, rfl⟩
    have hcap := grownCap_ge w (0 + k) 0 (YtkcmehgfndfbhaaDoor.growI_ren.t 25)
    have hmax := grownCap_le_maxLen w (0 + k) 0 (YtkcmehgfndfbhaaDoor.growI_ren.t 25) (by unfold maxLen; omega)
    refine ⟨(Below.refl _ w).drew.alloc (Nat.le_refl _) _, .inr ⟨_, _, _, rfl, World.alloc_heap_new _ _, ?_, hmax⟩⟩
    rw [Nat.zero_add] at hcap
    simp [Builtin.zeroCells, Value.cells]
    omega
end Go.Proofs.YtkcmehgfndfbhaaDoor.Iter
