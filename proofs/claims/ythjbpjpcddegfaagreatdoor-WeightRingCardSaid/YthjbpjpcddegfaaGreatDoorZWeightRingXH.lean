/- XH, for the statement WeightRing: what it needs, no more. -/
import Derived.Test.YthjbpjpcddegfaaGreatDoorZWeightRingXE
import Derived.Test.YthjbpjpcddegfaaGreatDoorZWeightRingRC
import Derived.Test.YthjbpjpcddegfaaGreatDoorZWeightRingNH
import Derived.Lib.ConvBytes
import Derived.Laws.BytesString
namespace Go.Proofs.YthjbpjpcddegfaaGreatDoor.Iter
open Go.RowKit Go.Shelf
attribute [local go_sem] Oper.semAt_some
set_option linter.unusedVariables false
set_option linter.unusedSimpArgs false
section
open Go.RM Go.RM.Read
variable (X : FuncId → List PV → Heap → PV → Heap → Prop)
theorem k_len : KOk Tryz.prog X (180, [.val (.int .u64 5)], .val (.int .i64 3)) := known (fun _ => true) [] (fun _ h => by cases h) 100000 40 (by kernel_rfl)
theorem k_log : KOk Tryz.prog X (179, [.val (.int .i64 3)], .val (.int .i64 0)) := known (fun _ => true) [] (fun _ h => by cases h) 100000 40 (by kernel_rfl)
theorem k_bool : KOk Tryz.prog X (181, [.val (.bool true)], .val (.int .i64 1)) := known (fun _ => true) [] (fun _ h => by cases h) 100000 40 (by kernel_rfl)
end
open Go.RM Go.RM.Read in
theorem len_calls (W : World) : Calls Tryz.prog 180 #[.int .u64 5] W fun e w' => e = .returned (.int .i64 3) ∧ Below W.heap.size W w' := calls_of (by kernel_rfl) (k_len _).2.2 (argsRep_cons (.val _) argsRep_nil)
open Go.RM Go.RM.Read in
theorem log_calls (W : World) : Calls Tryz.prog 179 #[.int .i64 3] W fun e w' => e = .returned (.int .i64 0) ∧ Below W.heap.size W w' := calls_of (by kernel_rfl) (k_log _).2.2 (argsRep_cons (.val _) argsRep_nil)
open Go.RM Go.RM.Read in
theorem bool_calls (W : World) : Calls Tryz.prog 181 #[.bool true] W fun e w' => e = .returned (.int .i64 1) ∧ Below W.heap.size W w' := calls_of (by kernel_rfl) (k_bool _).2.2 (argsRep_cons (.val _) argsRep_nil)
theorem cell_below {w w' : World} {b o : Nat} {v : Value} (h : w.cell? ⟨b, o, none⟩ = some v) (hb : Below w.heap.size w w') : w'.cell? ⟨b, o, none⟩ = some v := by
  have hlt : b < w.heap.size := by
    unfold World.cell? at h
    cases hx : w.heap[b]? with
    | none => rw [hx] at h; simp at h
    | some ob => exact (Array.getElem?_eq_some_iff.1 hx).1
  rw [← h]
  unfold World.cell?
  rw [hb.block _ hlt]
theorem digits_five (w : World) (hT : w.cell? ⟨1, 0, none⟩ = some (.int .u64 1)) : Calls Tryz.prog 158 #[.int .u64 5] w fun e w' => e = .returned (.int .i64 1) ∧ Below w.heap.size w w' := by
  go_enter Tryz.func158, Tryz.ntmps158
  go_wp2_with (first
    | (go_at_call 180; refine (len_calls _).mono ?_; rintro e w1 ⟨rfl, hb1⟩; have hT1 := cell_below hT hb1)
    | (go_at_call 179; refine (log_calls _).mono ?_; rintro e w2 ⟨rfl, hb2⟩; have hT2 := cell_below hT1 hb2)
    | (go_at_call 181; refine (bool_calls _).mono ?_; rintro e w3 ⟨rfl, hb3⟩))
  go_ret
  exact ⟨rfl, (hb1.trans (hb2.mono hb1.size)).trans (hb3.mono (Nat.le_trans hb1.size hb2.size))⟩
set_option maxRecDepth 100000 in
set_option maxHeartbeats 4000000 in
theorem base_five (w : World) (B o cap : Nat) (v : Value) (hc : w.cell? ⟨B, o, none⟩ = some v) (hf : w.frozen? ⟨B, o, none⟩ = false) (h1 : 1 ≤ cap) :
    Calls Tryz.prog 159 #[.slice (some ⟨B, o, none⟩) 1 cap, .int .u64 5] w fun e w' => (∃ v, e = .returned v) ∧ w' = w.setCell ⟨B, o, none⟩ (.int .u8 53) := by
  go_enter Tryz.func159, Tryz.ntmps159
  go_wp2
  go_loopw [1, 4] (fun vu vn wr => vu = .int .u64 5 ∧ vn = .int .i64 1 ∧ wr = w) (fun vu vn wr => 0)
  case atStart => exact ⟨rfl, rfl, rfl⟩
  case round =>
    obtain ⟨rfl, rfl, rfl⟩ := hrel
    go_wp2
    go_end0
    exact ⟨⟨_, rfl⟩, rfl⟩
theorem cell_blk {w : World} {b : Nat} {arr : Array Value} {t : TypeId} (h : w.heap[b]? = some (.cells arr t (0, 0))) (j : Nat) : w.cell? ⟨b, j, none⟩ = arr[j]? := by simp [World.cell?, h]
theorem frozen_blk {w : World} {b : Nat} {arr : Array Value} {t : TypeId} (h : w.heap[b]? = some (.cells arr t (0, 0))) (j : Nat) : w.frozen? ⟨b, j, none⟩ = false := by simp [World.frozen?, h]
theorem set_blk {w : World} {b : Nat} {arr : Array Value} {t : TypeId} (h : w.heap[b]? = some (.cells arr t (0, 0))) (j : Nat) (v : Value) : (w.setCell ⟨b, j, none⟩ v).heap[b]? = some (.cells (arr.set! j v) t (0, 0)) := by
  have hlt := (Array.getElem?_eq_some_iff.1 h).1
  have he := (Array.getElem?_eq_some_iff.1 h).2
  simp [World.setCell, hlt, Array.getElem_modify_self, he]
set_option maxRecDepth 100000 in
set_option maxHeartbeats 4000000 in
theorem minus_in (w : World) (hT : w.cell? ⟨1, 0, none⟩ = some (.int .u64 1)) : Calls Tryz.prog 137 #[.int .i64 (-5), .int .i64 10] w fun e w' => e = .returned (.string ⟨#[45, 53]⟩) ∧ Below w.heap.size w w' := by
  go_enter Tryz.func137, Tryz.ntmps137
  go_wp2_with (first
    | (go_at_call 158; refine (digits_five _ (by first | exact hT | exact cell_below hT ((Below.refl _ w).alloc (Nat.le_refl _) _))).mono ?_; rintro e w1 ⟨rfl, hb1⟩; have hblk := (hb1.block w.heap.size (by simp)).trans (World.alloc_heap_new w _); have hc1 := cell_blk hblk 1; have hf1 := frozen_blk hblk 1)
    | (go_at_call 159; refine (base_five w1 w.heap.size 1 23 (.int .u8 0) hc1 hf1 (by omega)).mono ?_; rintro e w2 ⟨⟨v', rfl⟩, rfl⟩; have hblk2 := set_blk hblk 1 (.int .u8 53); have hc2 := cell_blk hblk2 0; have hf2 := frozen_blk hblk2 0))
  have hblk3 := set_blk hblk2 0 (.int .u8 45)
  have hconv : (convert 162 9 (.slice (some ⟨w.heap.size, 0, none⟩) 2 24)).run Tryz.prog ((w1.setCell ⟨w.heap.size, 1, none⟩ (.int .u8 53)).setCell ⟨w.heap.size, 0, none⟩ (.int .u8 45)) = .ok (.string ⟨#[45, 53]⟩) ((w1.setCell ⟨w.heap.size, 1, none⟩ (.int .u8 53)).setCell ⟨w.heap.size, 0, none⟩ (.int .u8 45)) := by
    rw [run_convert_bytes_string _ _ _ 5 _ _ _ (by kernel_rfl) (by kernel_rfl) (by kernel_rfl), run_bytesToString _ _ 2 24 [45, 53] (run_loadCells_list _ _ [.int .u8 45, .int .u8 53] (fun j v hv => by
      match j, hv with
      | 0, hv => cases hv; exact (cell_blk hblk3 0).trans rfl
      | 1, hv => cases hv; exact (cell_blk hblk3 1).trans rfl))]
    rfl
  rw [hconv]
  go_wp2
  go_ret
  have hB1 := (((Below.refl _ w).alloc (Nat.le_refl _) _).trans (hb1.mono (by simp)))
  have hB2 := (hB1.setCell (p := ⟨w.heap.size, 1, none⟩) (Nat.le_refl _) (.int .u8 53)).setCell (p := ⟨w.heap.size, 0, none⟩) (Nat.le_refl _) (.int .u8 45)
  exact ⟨rfl, hB2⟩
set_option maxRecDepth 100000 in
theorem minus_calls (w : World) (hT : w.cell? ⟨1, 0, none⟩ = some (.int .u64 1)) : Calls Tryz.prog 98 #[.int .i64 (-5), .int .i64 10] w fun e w' => e = .returned (.string ⟨#[45, 53]⟩) ∧ Below w.heap.size w w' := by
  go_enter Tryz.func98, Tryz.ntmps98
  go_wp2_with (go_at_call 137; refine (minus_in _ hT).mono ?_; rintro e w1 ⟨rfl, hb1⟩)
  go_ret
  exact ⟨rfl, hb1⟩
end Go.Proofs.YthjbpjpcddegfaaGreatDoor.Iter
