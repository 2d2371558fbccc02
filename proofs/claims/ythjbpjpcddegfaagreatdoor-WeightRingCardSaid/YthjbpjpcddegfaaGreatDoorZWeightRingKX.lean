/- KX, for the statement WeightRing: what it needs, no more. -/
import Derived.Test.YthjbpjpcddegfaaGreatDoorZWeightRingNH
import Derived.Test.YthjbpjpcddegfaaGreatDoorProg
namespace Go.RM.Tryz
open Go.RM Go.Proofs
set_option linter.unusedVariables false
def makesI (g : Int) (rows : List Int) (s : Int) : Int := ((List.range 64).filter fun i => s.toNat.testBit i).foldl (fun o i => bitOp .or .u64 o (rows.getD i 0)) g
def U64 (x : Int) : Prop := 0 ≤ x ∧ x < 18446744073709551616
def MakesOk (g : Int) (rows : List Int) (s : Int) : Prop := U64 g ∧ U64 s ∧ (∀ r ∈ rows, U64 r) ∧ ∀ i, i < 64 → s.toNat.testBit i = true → i < rows.length
def text1 : ByteArray := ⟨#[123, 48, 125]⟩
def five : ByteArray := ⟨#[45, 53]⟩
inductive X : FuncId → List PV → Heap → PV → Heap → Prop where
  | makes (g : Int) (rows : List Int) (s : Int) (H : Heap) (h : MakesOk g rows s) : X 128 [.agg [.val (.int .u64 g), .rows (rows.map (cInt .u64))], .val (.int .u64 s)] H (.val (.int .u64 (makesI g rows s))) H
  | text (H : Heap) : X 94 [.val (.int .u64 1)] H (.val (.string text1)) H
  | minus (H : Heap) : X 98 [.val (.int .i64 (-5)), .val (.int .i64 10)] H (.val (.string five)) H
theorem x_makes {g : Int} {rows : List Int} {s r : Int} (h : MakesOk g rows s ∧ r = makesI g rows s) : X 128 [.agg [.val (.int .u64 g), .rows (rows.map (cInt .u64))], .val (.int .u64 s)] [] (.val (.int .u64 r)) [] := by
  rw [h.2]; exact .makes g rows s [] h.1
theorem k_text : KOk Tryz.prog X (94, [.val (.int .u64 1)], .val (.string text1)) := ⟨rfl, rfl, .ext (.text [])⟩
theorem k_minus : KOk Tryz.prog X (98, [.val (.int .i64 (-5)), .val (.int .i64 10)], .val (.string five)) := ⟨rfl, rfl, .ext (.minus [])⟩
end Go.RM.Tryz
