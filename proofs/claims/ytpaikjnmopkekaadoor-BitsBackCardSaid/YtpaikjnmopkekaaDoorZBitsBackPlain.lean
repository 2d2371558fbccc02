/- Plain, for the statement BitsBack: what it needs, no more. -/
import Derived.Test.YtpaikjnmopkekaaDoorWMore
import Derived.RowKit
namespace Go.Proofs.YtpaikjnmopkekaaDoor.Plain
open Go.RowKit Go.Proofs.YtpaikjnmopkekaaDoorW.PrintWords Go.Proofs.YtpaikjnmopkekaaDoorW.PrintLast Go.Proofs.YtpaikjnmopkekaaDoorW.PrintMore
set_option linter.unusedVariables false
set_option linter.unusedSimpArgs false
theorem loop_eq (s : ByteArray) : ∀ (d i : Nat) (r : List UInt8), i + d = s.size → ByteArray.toList.loop s i r = r.reverse ++ s.data.toList.drop i := by
  intro d
  induction d with
  | zero =>
    intro i r h
    have hs : s.size = s.data.toList.length := Array.length_toList.symm
    unfold ByteArray.toList.loop
    rw [if_neg (by omega), List.drop_eq_nil_of_le (by omega)]
    simp
  | succ d ih =>
    intro i r h
    have hs : s.size = s.data.toList.length := Array.length_toList.symm
    have hi : i < s.data.toList.length := by omega
    unfold ByteArray.toList.loop
    rw [if_pos (by omega), ih (i + 1) _ (by omega), List.drop_eq_getElem_cons hi]
    have : s.get! i = s.data.toList[i] := by
      unfold ByteArray.get!
      have h2 : i < s.data.size := hi
      have h3 : s.data[i]? = some s.data[i] := Array.getElem?_eq_getElem h2
      simp only [getElem!_def, h3, Array.getElem_toList]
    simp [this]
/-- A string's letters, as a list. -/
theorem toList_eq (s : ByteArray) : s.toList = s.data.toList := by
  unfold ByteArray.toList
  rw [loop_eq s s.size 0 [] (by omega)]
  simp
theorem toList_inj {s t : ByteArray} (h : s.toList = t.toList) : s = t := by
  rw [toList_eq, toList_eq] at h
  cases s; cases t
  congr 1
  exact Array.toList_inj.1 h
theorem rd_cons (l : List Int) (i : Nat) (h : i < l.length) : l.drop i = rd l (i : Int) :: l.drop (i + 1) := by
  rw [List.drop_eq_getElem_cons h]
  simp [rd, List.getD_eq_getElem?_getD, List.getElem?_eq_getElem h]
theorem wrap_succ (i : Nat) (h : i < 9223372036854775807) : wrap64 ((i : Int) + 1) = ((i + 1 : Nat) : Int) := by unfold wrap64; omega
end Go.Proofs.YtpaikjnmopkekaaDoor.Plain
