/- KX, for the statement FramesReached: what it needs, no more. -/
import Derived.Test.YtcogffeinodfaaaGreatDoorZFramesReachedGA
import Derived.Test.YtcogffeinodfaaaGreatDoorZFramesReachedXP
import Derived.Test.YtcogffeinodfaaaGreatDoorZFramesReachedKE
import Derived.Test.YtcogffeinodfaaaGreatDoorProg
import Derived.Lib.ItoaNum
import Derived.Lib.Join
namespace Go.RM.Tryz
open Go.RM Go.Proofs
set_option linter.unusedVariables false
def I64 (i : Int) : Prop := -9223372036854775808 ≤ i ∧ i ≤ 9223372036854775807
def text36 (i : Int) : ByteArray := ⟨(Go.D36.t36 i).toArray⟩
def NumOk (i : Int) : Prop := 0 ≤ i ∧ i < 9223372036854775808
def text10 (i : Int) : ByteArray := ⟨(Go.Lib.decDigits i.toNat).toArray⟩
def joinT (l : List ByteArray) (s : ByteArray) : ByteArray := ⟨(Go.Lib.join (l.map (·.data.toList)) s.data.toList).toArray⟩
def JoinOk (l : List ByteArray) (s : ByteArray) : Prop := l.length ≤ 140737488355328 ∧ (Go.Lib.join (l.map (·.data.toList)) s.data.toList).length ≤ 140737488355328
inductive X : FuncId → List PV → Heap → PV → Heap → Prop where
  | fmt (i : Int) (H : Heap) (h : I64 i) : X 51 [.val (.int .i64 i), .val (.int .i64 36)] H (.val (.string (text36 i))) H
  | itoa (i : Int) (H : Heap) (h : NumOk i) : X 52 [.val (.int .i64 i)] H (.val (.string (text10 i))) H
  | join (l : List ByteArray) (s : ByteArray) (H : Heap) (h : JoinOk l s) : X 53 [.rows (l.map cStr), .val (.string s)] H (.val (.string (joinT l s))) H
theorem x_fmt {i b : Int} {r : ByteArray} (h : (I64 i ∧ b = 36) ∧ r = text36 i) : X 51 [.val (.int .i64 i), .val (.int .i64 b)] [] (.val (.string r)) [] := by
  obtain ⟨⟨h1, rfl⟩, rfl⟩ := h
  exact .fmt i [] h1
theorem x_itoa {i : Int} {r : ByteArray} (h : NumOk i ∧ r = text10 i) : X 52 [.val (.int .i64 i)] [] (.val (.string r)) [] := by
  rw [h.2]; exact .itoa i [] h.1
theorem x_join {l : List ByteArray} {s r : ByteArray} (h : JoinOk l s ∧ r = joinT l s) : X 53 [.rows (l.map cStr), .val (.string s)] [] (.val (.string r)) [] := by
  rw [h.2]; exact .join l s [] h.1
end Go.RM.Tryz
