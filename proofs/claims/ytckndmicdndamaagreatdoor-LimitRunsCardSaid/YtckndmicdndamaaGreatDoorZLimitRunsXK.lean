/- XK, for the statement LimitRuns: what it needs, no more. -/
import Derived.Test.YtckndmicdndamaaGreatDoorZLimitRunsRD
import Derived.Test.YtckndmicdndamaaGreatDoorProg
import Derived.Shelf.Spec.SlicesGrow
namespace Go.Proofs
open Go.Shelf
def YtckndmicdndamaaGreatDoor.growI_ren:Go.Shelf.Ren:=⟨fun | 4=>140 | n=>n,fun | 22=>29 | 25=>3 | 3=>3 | 4=>4 | 9=>9 | 20=>20 | 0=>0 | n=>n,fun | n=>n⟩
theorem YtckndmicdndamaaGreatDoor.growI:Go.Proofs.Lays8.n4 Tryz.prog YtckndmicdndamaaGreatDoor.growI_ren:={
 mixed:=by kernel_rfl
 f4:=⟨Tryz.f140.name,by decide,Tryz.func140.trans (congrArg some (by kernel_rfl))⟩
 t0:=Tryz.underlying0
 a0:=Tryz.isAgg0
 z0:=Tryz.sizeOf0
 v0:=Tryz.zeroValue0
 t3:=Tryz.underlying3
 a3:=Tryz.isAgg3
 z3:=Tryz.sizeOf3
 v3:=Tryz.zeroValue3
 t4:=Tryz.underlying4
 a4:=Tryz.isAgg4
 z4:=Tryz.sizeOf4
 v4:=Tryz.zeroValue4
 t9:=Tryz.underlying9
 a9:=Tryz.isAgg9
 z9:=Tryz.sizeOf9
 v9:=Tryz.zeroValue9
 t20:=Tryz.underlying20
 a20:=Tryz.isAgg20
 z20:=Tryz.sizeOf20
 v20:=Tryz.zeroValue20
 t22:=Tryz.underlying29
 a22:=Tryz.isAgg29
 z22:=Tryz.sizeOf29
 v22:=Tryz.zeroValue29 }
end Go.Proofs
namespace Go.Proofs.YtckndmicdndamaaGreatDoor.Iter
open Go.RowKit Go.Shelf
set_option linter.unusedVariables false
theorem infoInt:(Tryz.prog.info? 3).map (fun i=>(i.zero,i.size,i.bytes))=some (some (.int .i64 0),1,8):=by kernel_rfl
theorem Grow_nil (n:Int) (h0:0≤n) (hB:n * 8≤140737488355328) (w:World) :
  Calls Tryz.prog 140 #[.slice none 0 0,.int .i64 n] w fun e w'=>Below w.heap.size w w' ∧
   (e=.returned (.slice none 0 0)∨∃ (cap:Nat) (arr:Array Value) (el:TypeId),e=.returned (.slice (some ⟨w.heap.size,0,none⟩) 0 cap)∧w'.heap[w.heap.size]?=some (.cells arr el (0,0))∧arr.size=cap * 1∧cap≤maxLen):=by
 obtain ⟨k,rfl⟩:∃ k:Nat,n=k:=⟨n.toNat,by omega⟩
 by_cases hk:k=0
 ·subst hk
  refine (Any8.slices_Grow_room YtckndmicdndamaaGreatDoor.growI none 0 0 0 w (by omega) (by omega) (by omega) (by omega)).mono ?_
  rintro e w' ⟨rfl,rfl⟩
  exact ⟨.refl _ _,.inl rfl⟩
 ·obtain ⟨i0,hi,hz0,hz1,hz2⟩:=info_parts infoInt
  refine (Any8.slices_Grow_grow YtckndmicdndamaaGreatDoor.growI i0 (.int .i64 0) hi hz0 (by omega) none 0 0 k [] w (by omega) (by omega) (by rw [hz2]; omega) (by omega) (by simp) (fun _=>rfl) (fun a ha=>by cases ha)).mono ?_
  rintro e w' ⟨rfl,rfl⟩
  have hcap:=grownCap_ge w (0 + k) 0 (YtckndmicdndamaaGreatDoor.growI_ren.t 25)
  have hmax:=grownCap_le_maxLen w (0 + k) 0 (YtckndmicdndamaaGreatDoor.growI_ren.t 25) (by unfold maxLen; omega)
  refine ⟨(Below.refl _ w).drew.alloc (Nat.le_refl _) _,.inr ⟨_,_,_,rfl,World.alloc_heap_new _ _,?_,hmax⟩⟩
  rw [Nat.zero_add] at hcap
  simp [Builtin.zeroCells,Value.cells]
  omega
end Go.Proofs.YtckndmicdndamaaGreatDoor.Iter
