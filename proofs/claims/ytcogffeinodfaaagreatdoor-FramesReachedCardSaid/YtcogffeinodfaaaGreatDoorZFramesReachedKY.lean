/- KY, for the statement FramesReached: what it needs, no more. -/
import Derived.Test.YtcogffeinodfaaaGreatDoorZFramesReachedKX
import Derived.Test.YtcogffeinodfaaaGreatDoorZFramesReachedRE
import Derived.Test.YtcogffeinodfaaaGreatDoorZFramesReachedXR
import Derived.Lib.LaidTab
namespace Go.RM.Tryz
open Go Go.RM Go.RM.Read Go.RowKit Go.Proofs Go.Proofs.YtcogffeinodfaaaGreatDoor
set_option linter.unusedVariables false
def tabs : Kn where
  k F := ∀ j, j < 20 → F 0 j = some (.int .u64 ((10 ^ j : Nat) : Int))
  up F F' hle h := fun j hj => hle _ _ _ (h j hj)
theorem x_sound : ∀ f args H r H', X f args H r H' → SoundCall Tryz.prog tabs f args H r H' := by
  intro f args H r H' h
  cases h with
  | fmt i H h =>
    refine sound_ext fun φ F w vs hk hr ha => ?_
    obtain ⟨us, rfl, ha1⟩ := args_val ha
    obtain ⟨us2, he, ha2⟩ := args_val ha1
    have hn := args_nil ha2
    obtain rfl : us = [.int .i64 36] := by
      have h1 : us = .int .i64 36 :: us2 := by simpa using he
      have h2 : us2 = [] := by simpa using hn
      rw [h1, h2]
    exact Iter.Format36 i h.1 h.2 w
  | itoa i H h =>
    refine sound_ext fun φ F w vs hk hr ha => ?_
    obtain ⟨us, rfl, ha1⟩ := args_val ha
    have hn := args_nil ha1
    obtain rfl : us = [] := by simpa using hn
    exact Iter.Itoa_at i h.1 h.2 w (fun j hj => cellF hr (hk j hj))
  | join l s H h =>
    refine sound_ext fun φ F w vs hk hr ha => ?_
    obtain ⟨v, us, rfl, hv, ha1⟩ := args_cons ha
    obtain ⟨us2, he, ha2⟩ := args_val ha1
    have hn := args_nil ha2
    obtain rfl : us = [.string s] := by
      have h1 : us = .string s :: us2 := by simpa using he
      have h2 : us2 = [] := by simpa using hn
      rw [h1, h2]
    obtain ⟨ad, cap, rfl, hl⟩ := rows_str hr hv
    rcases hl with rfl | ⟨b, o, rfl, hcap, hb, hc⟩
    · refine (Tryz.strings_Join_none ad cap s w).mono ?_
      rintro e w' ⟨rfl, rfl⟩
      exact ⟨rfl, .refl _ _⟩
    · exact Tryz.strings_Join b o cap l s w hc hb h.1 hcap h.2
theorem tabs_of {W : World} (h10 : Go.Lib.TabIs Tryz.prog W "internal/strconv.uint64pow10" .u64 Go.Lib.pow10Tab) : tabs.k (whole W) := by
  have key : ∀ {name : String} {k : IntKind} {zs : List Int} {g : Nat}, Tryz.prog.globalNamed name = some g → Go.Lib.TabIs Tryz.prog W name k zs → ∀ j x, zs[j]? = some x → whole W g j = some (.int k x) := by
    intro name k zs g hg h j x hx
    unfold Go.Lib.TabIs World.var? at h
    rw [hg] at h
    simp only [Option.bind_some] at h
    unfold whole
    split at h
    · rename_i cs _ _ hh
      rw [hh]
      injection h with h
      subst h
      simp [hx]
    · cases h
  exact fun j hj => key (by kernel_rfl) h10 j _ (by rw [← Go.Lib.pow10Tab_at j hj, List.getD_eq_getElem?_getD, List.getElem?_eq_getElem (by rw [Go.Lib.pow10Tab_length]; exact hj)]; rfl)
end Go.RM.Tryz
