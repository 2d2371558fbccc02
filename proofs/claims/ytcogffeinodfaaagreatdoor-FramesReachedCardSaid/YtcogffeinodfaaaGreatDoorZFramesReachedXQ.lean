/- XQ, for the statement FramesReached: what it needs, no more. -/
import Derived.Test.YtcogffeinodfaaaGreatDoorShelf
import Derived.Lib.AppendIntMem
import Derived.Lib.ItoaNum
import Derived.Lib.ConvBytes
import Derived.Laws.BytesString
import Derived.RangeFuncRecord
namespace Go.Proofs.YtcogffeinodfaaaGreatDoor.Iter
open Go.RowKit Go.Shelf Go.Sort
attribute [local go_sem] Oper.semAt_some
set_option linter.unusedVariables false
set_option linter.unusedSimpArgs false
theorem cell_b {w w' : World} {b o : Nat} {v : Value} (h : w.cell? ⟨b, o, none⟩ = some v) (hb : Below w.heap.size w w') : w'.cell? ⟨b, o, none⟩ = some v := by
  have hlt : b < w.heap.size := by
    unfold World.cell? at h
    cases hx : w.heap[b]? with
    | none => rw [hx] at h; simp at h
    | some ob => exact (Array.getElem?_eq_some_iff.1 hx).1
  rw [← h]
  unfold World.cell?
  rw [hb.block _ hlt]
def numB (i : Int) : List UInt8 := Lib.decDigits i.toNat
def Pow (w : World) : Prop := ∀ j, j < 20 → w.cell? ⟨0, j, none⟩ = some (.int .u64 ((10 ^ j : Nat) : Int))
theorem Pow.below {w w' : World} (h : Pow w) (hb : Below w.heap.size w w') : Pow w' := fun j hj => cell_b (h j hj) hb
set_option maxRecDepth 100000 in
set_option maxHeartbeats 4000000 in
theorem digits_at (u : Nat) (h1 : 1 ≤ u) (h2 : u < 18446744073709551616) (w : World) (hP : Pow w) :
    Calls Tryz.prog 96 #[.int .u64 u] w fun e w' => e = .returned (.int .i64 (Lib.nDigits u)) ∧ w' = w := by
  obtain ⟨hnd, h19⟩ := Lib.numDigits_eq u h1 h2
  have hL : Lib.bitLen u ≤ 64 := Lib.bitLen_le u 64 (Nat.le_refl _) h2
  have hcell := hP (Lib.l10 (Lib.bitLen u)) (by omega)
  have hto : ((u : Int)).toNat = u := by omega
  generalize hq : Lib.l10 (Lib.bitLen u) = q at hnd h19 hcell
  generalize hT : 10 ^ q = T at hnd hcell
  have h20 : q < 20 := by omega
  have Hnd := Lib.hid hnd
  clear hnd
  go_enter Tryz.func96, Tryz.ntmps96
  go_wp2_with (first
    | (go_at_call 113; refine (Tryz.bits_Len64 _ _ (by omega) (by omega)).mono ?_; rintro e w' ⟨rfl, rfl⟩)
    | (go_at_call 112; refine (Tryz.internal_strconv_log10Pow2 _ (by first | exact hL | (rw [hto]; exact hL)) _).mono ?_; rintro e w' ⟨rfl, rfl⟩)
    | (go_at_call 114; refine (Tryz.internal_strconv_bool2_int _ _).mono ?_; rintro e w' ⟨rfl, rfl⟩))
  all_goals go_ret
  all_goals (
    refine ⟨?_, rfl⟩
    have hnd := Hnd.out
    congr 2
    split at hnd <;> simp_all <;> omega)
set_option maxRecDepth 100000 in
set_option maxHeartbeats 4000000 in
theorem format_at (u : Nat) (h1 : 100 ≤ u) (h2 : u < 9223372036854775808) (w : World) (hP : Pow w) :
    Calls Tryz.prog 73 #[.int .i64 u, .int .i64 10] w fun e w' => e = .returned (.string ⟨(Lib.decDigits u).toArray⟩) ∧ Below w.heap.size w w' := by
  have hu64 : u < 18446744073709551616 := by omega
  have hnd20 : Lib.nDigits u ≤ 20 := by have := Lib.numDigits_eq u (by omega) hu64; split at this <;> omega
  have hb3 : Lib.nDigits u ≤ 23 := by omega
  have tA : Tryz.prog.underlying 163 = some (.array 24 5) := by kernel_rfl
  have tS : Tryz.prog.underlying 136 = some (.slice 5) := by kernel_rfl
  have tB : Tryz.prog.underlying 5 = some (.int .u8) := by kernel_rfl
  have tT : Tryz.prog.underlying 9 = some .string := by kernel_rfl
  have hal : Tryz.prog.arrayLen 163 = 24 := by simp [Program.arrayLen, tA]
  have hsl : ∀ W, (Instr.sliceAt 163 (.pointer (some ⟨w.heap.size, 0, none⟩)) (some (.int .i64 1)) (some (.int .i64 (1 + (Lib.nDigits u : Int)))) none).run Tryz.prog W = .ok (.slice (some ⟨w.heap.size, 1, none⟩) (Lib.nDigits u) 23) W := fun W => by
    rw [run_sliceAt_array_lh W 163 ⟨w.heap.size, 0, none⟩ (by simp [Program.arrayLen, Program.elem, tA]) .i64 .i64 1 (1 + (Lib.nDigits u : Int)) (by omega) (by omega) (by rw [hal]; omega)]
    go_simp
    omega
  have hH := Lib.holds_zero w 163 (Lib.nDigits u) (by omega)
  have hfmt := Tryz.internal_strconv_formatBase10 w.heap.size 1 23 u (Array.replicate (Lib.nDigits u) 0) (w.alloc (.cells Lib.zeros24 163)) hH (by rw [Array.size_replicate]; exact Lib.lt_pow_nDigits u) hu64 (by rw [Array.size_replicate]; omega)
  rw [Array.size_replicate] at hfmt
  have HH := Lib.hid hH
  have hPa : Pow (w.alloc (.cells Lib.zeros24 163)) := hP.below ((Below.refl _ w).alloc (Nat.le_refl _) _)
  clear hH hal
  go_enter Tryz.func73, Tryz.ntmps73
  go_wp2_with (go_at_call 96; refine (digits_at u (by omega) hu64 _ hPa).mono ?_; rintro e w' ⟨rfl, rfl⟩)
  go_at_call 97
  refine hfmt.mono ?_
  rintro e w' ⟨rfl, k, v', dk, rfl, hF⟩
  have hcv : (convert 136 9 (.slice (some ⟨w.heap.size, 1, none⟩) (Lib.nDigits u) 23)).run Tryz.prog ((putRow (fun (b : UInt8) => Value.int .u8 (b.toNat : Int)) (w.alloc (.cells Lib.zeros24 163)) w.heap.size 1 dk).drewN k) = .ok (.string ⟨(Lib.decDigits u).toArray⟩) ((putRow (fun (b : UInt8) => Value.int .u8 (b.toNat : Int)) (w.alloc (.cells Lib.zeros24 163)) w.heap.size 1 dk).drewN k) := by
    have h := run_convert_bytes_back (P := Tryz.prog) ((putRow (fun (b : UInt8) => Value.int .u8 (b.toNat : Int)) (w.alloc (.cells Lib.zeros24 163)) w.heap.size 1 dk).drewN k) 136 9 5 ⟨w.heap.size, 1, none⟩ 23 (Lib.decDigits u) tS tB tT (fun j hj => by
      rw [Lib.row_is_numeral hF j hj, Lib.add_plain, World.cell?_drewN]
      exact cell?_putRow (fun (b : UInt8) => Value.int .u8 (b.toNat : Int)) _ w.heap.size 1 _ dk HH.out (by rw [hF.size, Array.size_replicate]) j (by rw [hF.size]; rw [Lib.decDigits_length] at hj; exact hj))
    rw [Lib.decDigits_length] at h
    exact h
  go_wp2
  go_ret
  obtain ⟨os, eo⟩ := Lib.fin_pos w (.cells Lib.zeros24 163) dk k
  refine ⟨rfl, ?_⟩
  rw [eo]
  exact Lib.below_grow _ _ (Nat.le_refl _) _ _
theorem inner_at (u : Nat) (h1 : 100 ≤ u) (h2 : u < 9223372036854775808) (w : World) (hP : Pow w) :
    Calls Tryz.prog 74 #[.int .i64 u] w fun e w' => e = .returned (.string ⟨(Lib.decDigits u).toArray⟩) ∧ Below w.heap.size w w' := by
  go_enter Tryz.func74, Tryz.ntmps74
  go_wp2_with (go_at_call 73; refine (format_at u h1 h2 _ hP).mono ?_; rintro e w' ⟨rfl, hb⟩)
  go_ret
  exact ⟨rfl, hb⟩
theorem Itoa_at (i : Int) (h0 : 0 ≤ i) (h1 : i < 9223372036854775808) (w : World) (hP : Pow w) :
    Calls Tryz.prog 52 #[.int .i64 i] w fun e w' => e = .returned (.string ⟨(numB i).toArray⟩) ∧ Below w.heap.size w w' := by
  obtain ⟨u, rfl⟩ : ∃ u : Nat, i = u := ⟨i.toNat, by omega⟩
  by_cases hs : u < 100
  · refine (Tryz.strconv_Itoa_small u hs w).mono ?_
    rintro e w' ⟨rfl, rfl⟩
    exact ⟨rfl, .refl _ _⟩
  · go_enter Tryz.func52, Tryz.ntmps52
    go_wp2_with (go_at_call 74; refine (inner_at u (by omega) (by omega) _ hP).mono ?_; rintro e w' ⟨rfl, hb⟩)
    go_ret
    exact ⟨rfl, hb⟩
end Go.Proofs.YtcogffeinodfaaaGreatDoor.Iter
