/- KY, for the statement WeightRing: what it needs, no more. -/
import Derived.Test.YthjbpjpcddegfaaGreatDoorZWeightRingKX
import Derived.Test.YthjbpjpcddegfaaGreatDoorZWeightRingXF
import Derived.Test.YthjbpjpcddegfaaGreatDoorZWeightRingXG
import Derived.Test.YthjbpjpcddegfaaGreatDoorZWeightRingXH
import Derived.Lib.LaidTab
import Derived.Lib.ItoaNum
namespace Go.RM.Tryz
open Go Go.RM Go.RM.Read Go.Proofs Go.Proofs.YthjbpjpcddegfaaGreatDoor
set_option linter.unusedVariables false
def tabs : Kn where
  k F := (∀ j, j < 64 → F 0 j = some (.int .u8 (Iter.tab64.getD j 0))) ∧ F 1 0 = some (.int .u64 1)
  up F F' hle h := ⟨fun j hj => hle _ _ _ (h.1 j hj), hle _ _ _ h.2⟩
theorem makes_eq (g : Int) (rows : List Int) (s : Int) : Iter.orAll rows g (Iter.bl s.toNat) = makesI g rows s := by
  unfold Iter.orAll Iter.bl makesI
  rw [List.foldl_map]
  rfl
theorem bl_mem {s : Nat} {x : Int} (h : x ∈ Iter.bl s) : ∃ i : Nat, x = i ∧ i < 64 ∧ s.testBit i = true := by
  unfold Iter.bl at h
  obtain ⟨i, hi, rfl⟩ := List.mem_map.1 h
  obtain ⟨h1, h2⟩ := List.mem_filter.1 hi
  exact ⟨i, rfl, List.mem_range.1 h1, h2⟩
theorem x_sound : ∀ f args H r H', X f args H r H' → SoundCall Tryz.prog tabs f args H r H' := by
  intro f args H r H' h
  cases h with
  | makes g rows s H h =>
    refine sound_ext fun φ F w vs hk hr ha => ?_
    obtain ⟨v, us, rfl, hv, ha1⟩ := args_cons ha
    obtain ⟨us2, he, ha2⟩ := args_val ha1
    have hn := args_nil ha2
    obtain rfl : us = [.int .u64 s] := by
      have h1 : us = .int .u64 s :: us2 := by simpa using he
      have h2 : us2 = [] := by simpa using hn
      rw [h1, h2]
    obtain ⟨x, y, rfl, hx, hy⟩ := agg_two hv
    have := hx.val_inv
    subst this
    obtain ⟨ad, cap, rfl, hc⟩ := rows_int hr hy
    have hs : s = ((s.toNat : Nat) : Int) := by have := h.2.1.1; omega
    have hs2 : s.toNat < 18446744073709551616 := by have := h.2.1.2; omega
    have := Iter.makes_calls g rows ad cap s.toNat hs2 w (fun j hj => cellF hr (hk.1 j hj)) hc (fun x hx => by
      obtain ⟨i, rfl, hi, hb⟩ := bl_mem hx
      have := h.2.2.2 i hi hb
      omega)
    rw [makes_eq, ← hs] at this
    exact this
  | text H =>
    refine sound_ext fun φ F w vs hk hr ha => ?_
    obtain ⟨us, rfl, ha1⟩ := args_val ha
    have hn := args_nil ha1
    obtain rfl : us = [] := by simpa using hn
    exact Iter.Text_one w (fun j hj => cellF hr (hk.1 j hj))
  | minus H =>
    refine sound_ext fun φ F w vs hk hr ha => ?_
    obtain ⟨us, rfl, ha1⟩ := args_val ha
    obtain ⟨us2, he, ha2⟩ := args_val ha1
    have hn := args_nil ha2
    obtain rfl : us = [.int .i64 10] := by
      have h1 : us = .int .i64 10 :: us2 := by simpa using he
      have h2 : us2 = [] := by simpa using hn
      rw [h1, h2]
    exact Iter.minus_calls w (cellF hr hk.2)
theorem tabs_of {W : World} (h64 : Go.Lib.TabIs Tryz.prog W "math/bits.deBruijn64tab" .u8 Iter.tab64) (h10 : Go.Lib.TabIs Tryz.prog W "internal/strconv.uint64pow10" .u64 Go.Lib.pow10Tab) : tabs.k (whole W) := by
  have key : ∀ {name : String} {k : IntKind} {zs : List Int} {g : Nat}, Tryz.prog.globalNamed name = some g → Go.Lib.TabIs Tryz.prog W name k zs → ∀ j x, zs[j]? = some x → whole W g j = some (.int k x) := by
    intro name k zs g hg h j x hx
    unfold Go.Lib.TabIs World.var? at h
    rw [hg] at h
    simp only [Option.bind_some] at h
    unfold whole
    split at h
    · rename_i cs _ _ hh
      rw [hh]
      injection h with h
      subst h
      simp [hx]
    · cases h
  refine ⟨fun j hj => key (by kernel_rfl) h64 j _ ?_, key (by kernel_rfl) h10 0 1 rfl⟩
  have hl : Iter.tab64.length = 64 := by decide
  rw [List.getD_eq_getElem?_getD, List.getElem?_eq_getElem (by omega)]
  rfl
end Go.RM.Tryz
