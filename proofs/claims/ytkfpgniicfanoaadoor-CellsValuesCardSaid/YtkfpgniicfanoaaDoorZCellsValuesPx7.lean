/- Px7, for the statement CellsValues: what it needs, no more. -/
import Derived.Test.YtkfpgniicfanoaaDoorZCellsValuesPx0
import Derived.Test.YtkfpgniicfanoaaDoorZCellsValuesPx1
import Derived.Test.YtkfpgniicfanoaaDoorZCellsValuesPx4
-- Written by a program of this session (wip/print/patch_print.py over the kit's printer) out of the translation: functions and contracts. Lean checks it.
namespace Go.Proofs.YtkfpgniicfanoaaDoor.P
open Go.RowKit Go.Proofs.YtkfpgniicfanoaaDoorW.PrintWords Go.Proofs.YtkfpgniicfanoaaDoorW.PrintLast Go.Proofs.YtkfpgniicfanoaaDoorW.PrintMore
attribute [local go_sem] max2_int min2_int max_two min_two max_three min_three max_four min_four   -- for this text's walks alone
set_option linter.unusedVariables false
set_option linter.unusedSimpArgs false
attribute [local go_sem high] eqA34
def strings_Join.f (l0 : List ByteArray) (a1 : ByteArray) : Option (ByteArray) := if l0.length ≤ 140737488355328 ∧ (Go.Lib.join (l0.map (·.data.toList)) a1.data.toList).length ≤ 140737488355328 then some ⟨(Go.Lib.join (l0.map (·.data.toList)) a1.data.toList).toArray⟩ else none

set_option maxHeartbeats 1000000 in
set_option maxRecDepth 100000 in
theorem strings_Join.calls (A0 : Option Addr) (c0 : Nat) (l0 : List ByteArray) (a1 : ByteArray) (r : ByteArray) (w : World) (hr0 : Kd.C Kd.string w A0 l0.length l0) (hc0 : l0.length ≤ c0) (h : strings_Join.f l0 a1 = some r) :
    Calls Tryd.prog 45 #[.slice A0 l0.length c0, .string a1] w fun e w' => e = .returned (.string r) ∧ Below w.heap.size w w' := by
  have hr : l0.length ≤ 140737488355328 ∧ (Go.Lib.join (l0.map (·.data.toList)) a1.data.toList).length ≤ 140737488355328 := by
    unfold strings_Join.f at h
    split at h
    · assumption
    · cases h
  have he : r = ⟨(Go.Lib.join (l0.map (·.data.toList)) a1.data.toList).toArray⟩ := by
    unfold strings_Join.f at h
    rw [if_pos hr] at h
    exact (Option.some.inj h).symm
  subst he
  by_cases h0 : l0 = []
  · subst h0
    refine (Tryd.strings_Join_none A0 c0 a1 w).mono ?_
    rintro e w' ⟨rfl, rfl⟩
    exact ⟨rfl, Below.refl _ _⟩
  · have hpos : 0 < l0.length := List.length_pos_iff.mpr h0
    have hc0' := hc0
    obtain ⟨ad, rfl, hcs⟩ := hr0.2.2 hpos
    have hcell : ∀ (j : Nat) x, l0[j]? = some x → w.cell? (ad.add j) = some (.string x) := by
      intro j x hx
      obtain ⟨c, _, hk, hc⟩ := hcs j x hx
      obtain rfl : c = [.string x] := hk
      have hq := hc 0 _ rfl
      rw [show Kd.string.sz = 1 from rfl] at hq
      simpa using hq
    have h0c := hcell 0 l0[0] (List.getElem?_eq_getElem hpos)
    have hsp : ad.spot = none := by
      rw [show ad.add 0 = ad from rfl] at h0c
      unfold World.cell? at h0c
      split at h0c
      · split at h0c
        · cases h0c
        · rename_i hs
          simpa using hs
      · cases h0c
    obtain ⟨bk, o, sp⟩ := ad
    obtain rfl : sp = none := hsp
    have hadd : ∀ j, (⟨bk, o, none⟩ : Addr).add j = ⟨bk, o + j, none⟩ := by
      intro j
      unfold Addr.add
      split
      · rename_i hj
        rw [hj, Nat.add_zero]
      · rfl
    refine (Tryd.strings_Join bk o c0 l0 a1 w (fun j x hx => by rw [← hadd]; exact hcell j x hx) ?_ hr.1 hc0' hr.2).mono ?_
    · have := World.block_lt_of_cell? w _ h0c
      exact this
    · rintro e w' ⟨rfl, hb⟩
      exact ⟨rfl, hb⟩

def strconv_Itoa.f (a0 : Int) : Option (ByteArray) := if -9223372036854775808 ≤ a0 ∧ a0 ≤ 9223372036854775807 then some ⟨(Go.Lib.itoa a0).toArray⟩ else none

set_option maxHeartbeats 1000000 in
set_option maxRecDepth 100000 in
theorem strconv_Itoa.calls (a0 : Int) (r : ByteArray) (w : World) (hG : Glob w) (h : strconv_Itoa.f a0 = some r) :
    Calls Tryd.prog 59 #[.int .i64 a0] w fun e w' => e = .returned (.string r) ∧ Below w.heap.size w w' := by
  have hr : -9223372036854775808 ≤ a0 ∧ a0 ≤ 9223372036854775807 := by
    unfold strconv_Itoa.f at h
    split at h
    · assumption
    · cases h
  have he : r = ⟨(Go.Lib.itoa a0).toArray⟩ := by
    unfold strconv_Itoa.f at h
    rw [if_pos hr] at h
    exact (Option.some.inj h).symm
  subst he
  refine (Tryd.strconv_Itoa a0 hr.1 hr.2 w hG.1).mono ?_
  rintro e w' ⟨rfl, k, os, rfl⟩
  exact ⟨rfl, below_growN k os⟩

def strconv_FormatInt.f (a0 : Int) (a1 : Int) : Option (ByteArray) := if (-9223372036854775808 ≤ a0 ∧ a0 ≤ 9223372036854775807) ∧ a1 = 10 then some ⟨(Go.Lib.itoa a0).toArray⟩ else none

set_option maxHeartbeats 1000000 in
set_option maxRecDepth 100000 in
theorem strconv_FormatInt.calls (a0 : Int) (a1 : Int) (r : ByteArray) (w : World) (hG : Glob w) (h : strconv_FormatInt.f a0 a1 = some r) :
    Calls Tryd.prog 60 #[.int .i64 a0, .int .i64 a1] w fun e w' => e = .returned (.string r) ∧ Below w.heap.size w w' := by
  have hr : (-9223372036854775808 ≤ a0 ∧ a0 ≤ 9223372036854775807) ∧ a1 = 10 := by
    unfold strconv_FormatInt.f at h
    split at h
    · assumption
    · cases h
  have he : r = ⟨(Go.Lib.itoa a0).toArray⟩ := by
    unfold strconv_FormatInt.f at h
    rw [if_pos hr] at h
    exact (Option.some.inj h).symm
  subst he
  obtain ⟨hr, rfl⟩ := hr
  refine (Tryd.strconv_FormatInt_10 a0 hr.1 hr.2 w hG.1).mono ?_
  rintro e w' ⟨rfl, k, os, rfl⟩
  exact ⟨rfl, below_growN k os⟩

end Go.Proofs.YtkfpgniicfanoaaDoor.P
