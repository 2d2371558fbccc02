/- XR, for the statement FramesReached: what it needs, no more. -/
import Derived.Test.YtcogffeinodfaaaGreatDoorZFramesReachedXQ
import Derived.Test.YtcogffeinodfaaaGreatDoorZFramesReachedXP
namespace Go.Proofs.YtcogffeinodfaaaGreatDoor.Iter
open Go.RowKit Go.Shelf Go.Sort
attribute [local go_sem] Oper.semAt_some
set_option linter.unusedVariables false
set_option linter.unusedSimpArgs false
set_option maxRecDepth 100000 in
theorem pow36 (w : World) : Calls Tryz.prog 115 #[.int .i64 36] w fun e w' => e = .returned (.bool false) ∧ w' = w := by
  go_enter Tryz.func115, Tryz.ntmps115
  go_wp2
  go_ret
  exact ⟨rfl, rfl⟩
def uv : Value → Nat
  | .int _ i => i.toNat
  | _ => 0
def Tail (arr : Array Value) (t : List UInt8) : Prop := arr.size = 65 ∧ t.length ≤ 65 ∧ ∀ (j : Nat) (b : UInt8), t[j]? = some b → arr[65 - t.length + j]? = some (.int .u8 (b.toNat : Int))
theorem Tail.put {arr : Array Value} {t : List UInt8} (h : Tail arr t) (hl : t.length < 65) (b : UInt8) : Tail (arr.set! (64 - t.length) (.int .u8 (b.toNat : Int))) (b :: t) := by
  obtain ⟨h1, h2, h3⟩ := h
  refine ⟨by simpa using h1, by simp; omega, fun j c hj => ?_⟩
  simp only [List.length_cons]
  rw [Array.set!_eq_setIfInBounds, Array.getElem?_setIfInBounds]
  cases j with
  | zero =>
    simp only [List.getElem?_cons_zero, Option.some.injEq] at hj
    subst hj
    rw [if_pos (by omega), if_pos (by omega)]
  | succ j =>
    simp only [List.getElem?_cons_succ] at hj
    have := h3 j c hj
    rw [if_neg (by omega), show 65 - (t.length + 1) + (j + 1) = 65 - t.length + j by omega]
    exact this
theorem cell_blk {w : World} {b : Nat} {arr : Array Value} {t : TypeId} (h : w.heap[b]? = some (.cells arr t (0, 0))) (j : Nat) : w.cell? ⟨b, j, none⟩ = arr[j]? := by simp [World.cell?, h]
theorem frozen_blk {w : World} {b : Nat} {arr : Array Value} {t : TypeId} (h : w.heap[b]? = some (.cells arr t (0, 0))) (j : Nat) : w.frozen? ⟨b, j, none⟩ = false := by simp [World.frozen?, h]
theorem set_blk {w : World} {b : Nat} {arr : Array Value} {t : TypeId} (h : w.heap[b]? = some (.cells arr t (0, 0))) (j : Nat) (v : Value) : (w.setCell ⟨b, j, none⟩ v).heap[b]? = some (.cells (arr.set! j v) t (0, 0)) := by
  have hlt := (Array.getElem?_eq_some_iff.1 h).1
  have he := (Array.getElem?_eq_some_iff.1 h).2
  simp [World.setCell, hlt, Array.getElem_modify_self, he]
abbrev digs : ByteArray := ⟨#[48, 49, 50, 51, 52, 53, 54, 55, 56, 57, 97, 98, 99, 100, 101, 102, 103, 104, 105, 106, 107, 108, 109, 110, 111, 112, 113, 114, 115, 116, 117, 118, 119, 120, 121, 122]⟩
theorem digs_all : ∀ y : Fin 36, digs.data[y.1]? = some (D36.dg y.1) := by decide
theorem digs_at {y z : Nat} (h : y < digs.size) (hz : y = z) : digs[y]'h = D36.dg z := by
  subst hz
  have h1 : y < 36 := h
  have := digs_all ⟨y, h1⟩
  rw [Array.getElem?_eq_getElem (by exact h1)] at this
  injection this
theorem Tail.text {W : World} {B q n cap : Nat} {arr : Array Value} {ty : TypeId} {t : List UInt8} (hb : W.heap[B]? = some (.cells arr ty (0, 0))) (h : Tail arr t) (hq : q + t.length = 65) (hn : n = t.length) :
    (convert 136 9 (.slice (some ⟨B, q, none⟩) n cap)).run Tryz.prog W = .ok (.string ⟨t.toArray⟩) W := by
  subst hn
  refine run_convert_bytes_back W 136 9 5 ⟨B, q, none⟩ cap t (by kernel_rfl) (by kernel_rfl) (by kernel_rfl) fun j hj => ?_
  rw [Lib.add_plain, cell_blk hb]
  have := h.2.2 j _ (List.getElem?_eq_getElem hj)
  rw [show 65 - t.length = q by omega] at this
  exact this
set_option maxRecDepth 100000 in
set_option maxHeartbeats 4000000 in
theorem bits_at (m : Nat) (hm : m ≤ 9223372036854775808) (w : World) :
    Calls Tryz.prog 98 #[.slice none 0 0, .int .u64 m, .int .i64 36, .bool false, .bool false] w fun e w' => (∃ x, e = .returned (.tuple #[x, .string ⟨(D36.d36 m).toArray⟩])) ∧ Below w.heap.size w w' := by
  have hlen := D36.d36_len 12 m (by simp; omega)
  go_enter Tryz.func98, Tryz.ntmps98
  go_wp2_with (go_at_call 115; refine (pow36 _).mono ?_; rintro e w' ⟨rfl, rfl⟩)
  go_loopw [1, 13] (fun vu vi W => ∃ (x p : Nat) (t : List UInt8) (arr : Array Value), vu = .int .u64 x ∧ vi = .int .i64 p ∧ x ≤ m ∧ t.length + p = 65 ∧ D36.d36 m = D36.d36 x ++ t ∧ W.heap[w.heap.size]? = some (.cells arr 181 (0, 0)) ∧ Tail arr t ∧ Below w.heap.size w W) (fun vu vi W => uv vu)
  case atStart =>
    refine ⟨m, 65, [], _, rfl, rfl, Nat.le_refl _, rfl, by simp, World.alloc_heap_new _ _, ?_, (Below.refl _ w).alloc (Nat.le_refl _) _⟩
    exact ⟨by simp, by simp, fun j b hj => by simp at hj⟩
  case round =>
    obtain ⟨x, p, t, arr, rfl, rfl, hx, hp, hd, hb, ht, hB⟩ := hrel
    have hdl : (D36.d36 x).length + t.length ≤ 13 := by rw [hd, List.length_append] at hlen; exact hlen
    have hpos := D36.d36_pos x
    have hin : 1 ≤ (p : Int) ∧ (p : Int) - 1 < 65 := by omega
    have hcell : wr.cell? ⟨w.heap.size, p - 1, none⟩ = some (arr[p - 1]'(by have := ht.1; omega)) := by
      rw [cell_blk hb]
      exact Array.getElem?_eq_getElem _
    have hfr := frozen_blk hb (p - 1)
    have hput := fun b => ht.put (by omega) b
    rw [show 64 - t.length = p - 1 by omega] at hput
    clear hlen
    by_cases hlt : 36 ≤ x
    · have hge : (36 : Int) ≤ (x : Int) := by omega
      have hq : (x : Int) / 36 * 36 ≤ (x : Int) ∧ (x : Int) - (x : Int) / 36 * 36 < 36 := by omega
      go_wp2
      have hmod : x - x / 36 * 36 = x % 36 := by omega
      refine ⟨⟨x / 36, p - 1, D36.dg (x % 36) :: t, _, by simp, ?_, by omega, by simp; omega, ?_, ?_, hput _, ?_⟩, ?_⟩
      · congr 1; omega
      · rw [hd, D36.d36_ge hlt, List.append_assoc]; rfl
      · rw [digs_at _ hmod]; exact set_blk hb (p - 1) _
      · exact hB.setCell (Nat.le_refl _) _
      · simp only [uv]; omega
    · have hge : (x : Int) < 36 := by omega
      have hd' : D36.d36 m = D36.dg x :: t := by rw [hd, D36.d36_lt (by omega)]; rfl
      have tA : Tryz.prog.underlying 181 = some (.array 65 5) := by kernel_rfl
      have hal : Tryz.prog.arrayLen 181 = 65 := by simp [Program.arrayLen, tA]
      have hsl : ∀ W, (Instr.sliceAt 181 (.pointer (some ⟨w.heap.size, 0, none⟩)) (some (.int .i64 ((p : Int) - 1))) none none).run Tryz.prog W = .ok (.slice (some ⟨w.heap.size, p - 1, none⟩) (66 - p) (66 - p)) W := fun W => by
        rw [run_sliceAt_array_l W 181 ⟨w.heap.size, 0, none⟩ (by simp [Program.arrayLen, Program.elem, tA]) .i64 ((p : Int) - 1) (by omega) (by rw [hal]; omega)]
        go_simp
        omega
      have hcv : (convert 136 9 (.slice (some ⟨w.heap.size, p - 1, none⟩) (66 - p) (66 - p))).run Tryz.prog (wr.setCell ⟨w.heap.size, p - 1, none⟩ (.int .u8 ((D36.dg x).toNat : Int))) = .ok (.string ⟨(D36.d36 m).toArray⟩) (wr.setCell ⟨w.heap.size, p - 1, none⟩ (.int .u8 ((D36.dg x).toNat : Int))) := by
        rw [hd']
        exact Tail.text (set_blk hb (p - 1) _) (hput (D36.dg x)) (by simp; omega) (by simp; omega)
      go_wp2
      rw [digs_at _ rfl, hcv]
      go_wp2
      go_ret2
      exact ⟨⟨.slice none 0 0, by rw [hd]; rfl⟩, hB.setCell (Nat.le_refl _) _⟩
set_option maxRecDepth 100000 in
set_option maxHeartbeats 4000000 in
theorem bits_neg (u m : Nat) (hm : m ≤ 9223372036854775808) (hneg : IntKind.u64.wrap (-(u : Int)) = (m : Int)) (w : World) :
    Calls Tryz.prog 98 #[.slice none 0 0, .int .u64 u, .int .i64 36, .bool true, .bool false] w fun e w' => (∃ x, e = .returned (.tuple #[x, .string ⟨(45 :: D36.d36 m).toArray⟩])) ∧ Below w.heap.size w w' := by
  have hlen := D36.d36_len 12 m (by simp; omega)
  go_enter Tryz.func98, Tryz.ntmps98
  go_wp2_with (go_at_call 115; refine (pow36 _).mono ?_; rintro e w' ⟨rfl, rfl⟩)
  go_loopw [1, 13] (fun vu vi W => ∃ (x p : Nat) (t : List UInt8) (arr : Array Value), vu = .int .u64 x ∧ vi = .int .i64 p ∧ x ≤ m ∧ t.length + p = 65 ∧ D36.d36 m = D36.d36 x ++ t ∧ W.heap[w.heap.size]? = some (.cells arr 181 (0, 0)) ∧ Tail arr t ∧ Below w.heap.size w W) (fun vu vi W => uv vu)
  case atStart =>
    refine ⟨m, 65, [], _, rfl, rfl, Nat.le_refl _, rfl, by simp, World.alloc_heap_new _ _, ?_, (Below.refl _ w).alloc (Nat.le_refl _) _⟩
    exact ⟨by simp, by simp, fun j b hj => by simp at hj⟩
  case round =>
    obtain ⟨x, p, t, arr, rfl, rfl, hx, hp, hd, hb, ht, hB⟩ := hrel
    have hdl : (D36.d36 x).length + t.length ≤ 13 := by rw [hd, List.length_append] at hlen; exact hlen
    have hpos := D36.d36_pos x
    have hin : 1 ≤ (p : Int) ∧ (p : Int) - 1 < 65 := by omega
    have hcell : wr.cell? ⟨w.heap.size, p - 1, none⟩ = some (arr[p - 1]'(by have := ht.1; omega)) := by
      rw [cell_blk hb]
      exact Array.getElem?_eq_getElem _
    have hfr := frozen_blk hb (p - 1)
    have hput := fun b => ht.put (by omega) b
    rw [show 64 - t.length = p - 1 by omega] at hput
    clear hlen
    by_cases hlt : 36 ≤ x
    · have hge : (36 : Int) ≤ (x : Int) := by omega
      have hq : (x : Int) / 36 * 36 ≤ (x : Int) ∧ (x : Int) - (x : Int) / 36 * 36 < 36 := by omega
      go_wp2
      have hmod : x - x / 36 * 36 = x % 36 := by omega
      refine ⟨⟨x / 36, p - 1, D36.dg (x % 36) :: t, _, by simp, ?_, by omega, by simp; omega, ?_, ?_, hput _, ?_⟩, ?_⟩
      · congr 1; omega
      · rw [hd, D36.d36_ge hlt, List.append_assoc]; rfl
      · rw [digs_at _ hmod]; exact set_blk hb (p - 1) _
      · exact hB.setCell (Nat.le_refl _) _
      · simp only [uv]; omega
    · have hge : (x : Int) < 36 := by omega
      have hd' : D36.d36 m = D36.dg x :: t := by rw [hd, D36.d36_lt (by omega)]; rfl
      have hcell2 : ∀ v, (wr.setCell ⟨w.heap.size, p - 1, none⟩ v).cell? ⟨w.heap.size, p - 1 - 1, none⟩ = some (arr[p - 1 - 1]'(by have := ht.1; omega)) := fun v => by
        rw [cell_blk (set_blk hb (p - 1) v)]
        rw [Array.getElem?_eq_getElem (by have := ht.1; simp; omega)]
        simp only [Array.set!_eq_setIfInBounds]
        rw [Array.getElem_setIfInBounds_ne]
        omega
      have hfr2 : ∀ v, (wr.setCell ⟨w.heap.size, p - 1, none⟩ v).frozen? ⟨w.heap.size, p - 1 - 1, none⟩ = false := fun v => frozen_blk (set_blk hb (p - 1) v) _
      have tA : Tryz.prog.underlying 181 = some (.array 65 5) := by kernel_rfl
      have hal : Tryz.prog.arrayLen 181 = 65 := by simp [Program.arrayLen, tA]
      have hin2 : 1 ≤ (p : Int) - 1 ∧ (p : Int) - 1 - 1 < 65 := by omega
      have hsl : ∀ W, (Instr.sliceAt 181 (.pointer (some ⟨w.heap.size, 0, none⟩)) (some (.int .i64 ((p : Int) - 1 - 1))) none none).run Tryz.prog W = .ok (.slice (some ⟨w.heap.size, p - 1 - 1, none⟩) (67 - p) (67 - p)) W := fun W => by
        rw [run_sliceAt_array_l W 181 ⟨w.heap.size, 0, none⟩ (by simp [Program.arrayLen, Program.elem, tA]) .i64 ((p : Int) - 1 - 1) (by omega) (by rw [hal]; omega)]
        go_simp
        omega
      obtain ⟨W2, hW2⟩ : ∃ W2, W2 = (wr.setCell ⟨w.heap.size, p - 1, none⟩ (.int .u8 ((D36.dg x).toNat : Int))).setCell ⟨w.heap.size, p - 1 - 1, none⟩ (.int .u8 45) := ⟨_, rfl⟩
      have hcv : (convert 136 9 (.slice (some ⟨w.heap.size, p - 1 - 1, none⟩) (67 - p) (67 - p))).run Tryz.prog W2 = .ok (.string ⟨(45 :: D36.d36 m).toArray⟩) W2 := by
        have h2 := (hput (D36.dg x)).put (by simp; omega) 45
        rw [show 64 - (D36.dg x :: t).length = p - 1 - 1 by simp; omega] at h2
        rw [hd', hW2]
        exact Tail.text (set_blk (set_blk hb (p - 1) _) (p - 1 - 1) _) h2 (by simp; omega) (by simp; omega)
      go_wp2
      rw [digs_at _ rfl, ← hW2, hcv]
      go_wp2
      go_ret2
      refine ⟨⟨.slice none 0 0, by rw [hd]; rfl⟩, ?_⟩
      exact (hB.setCell (Nat.le_refl _) _).setCell (Nat.le_refl _) _
theorem inner36 (i : Int) (h0 : -9223372036854775808 ≤ i) (h1 : i ≤ 9223372036854775807) (w : World) :
    Calls Tryz.prog 73 #[.int .i64 i, .int .i64 36] w fun e w' => e = .returned (.string ⟨(D36.t36 i).toArray⟩) ∧ Below w.heap.size w w' := by
  by_cases hi : i < 0
  · have hneg : IntKind.u64.wrap (-((IntKind.u64.wrap i).toNat : Int)) = (((-i).toNat : Nat) : Int) := by
      simp only [IntKind.wrap, IntKind.signed, IntKind.bits]; simp; omega
    have hu : (((IntKind.u64.wrap i).toNat : Nat) : Int) = IntKind.u64.wrap i := by
      simp only [IntKind.wrap, IntKind.signed, IntKind.bits]; simp; omega
    have ht : D36.t36 i = 45 :: D36.d36 (-i).toNat := by unfold D36.t36; rw [if_pos hi]
    have key := bits_neg (IntKind.u64.wrap i).toNat (-i).toNat (by omega) hneg
    rw [hu] at key
    rw [ht]
    go_enter Tryz.func73, Tryz.ntmps73
    go_wp2_with (go_at_call 98; refine (key _).mono ?_; rintro e w1 ⟨⟨x, rfl⟩, hb⟩)
    go_ret
    exact ⟨rfl, hb⟩
  · obtain ⟨m, rfl⟩ : ∃ m : Nat, i = m := ⟨i.toNat, by omega⟩
    have ht : D36.t36 (m : Int) = D36.d36 m := by unfold D36.t36; rw [if_neg hi]; rfl
    have key := bits_at m (by omega)
    rw [ht]
    go_enter Tryz.func73, Tryz.ntmps73
    go_wp2_with (go_at_call 98; refine (key _).mono ?_; rintro e w1 ⟨⟨x, rfl⟩, hb⟩)
    go_ret
    exact ⟨rfl, hb⟩
theorem Format36 (i : Int) (h0 : -9223372036854775808 ≤ i) (h1 : i ≤ 9223372036854775807) (w : World) :
    Calls Tryz.prog 51 #[.int .i64 i, .int .i64 36] w fun e w' => e = .returned (.string ⟨(D36.t36 i).toArray⟩) ∧ Below w.heap.size w w' := by
  go_enter Tryz.func51, Tryz.ntmps51
  go_wp2_with (go_at_call 73; refine (inner36 i h0 h1 _).mono ?_; rintro e w' ⟨rfl, hb⟩)
  go_ret
  exact ⟨rfl, hb⟩
end Go.Proofs.YtcogffeinodfaaaGreatDoor.Iter
