/- GF, for the statement QueryOnes: what it needs, no more. -/
import Derived.Test.YtphfgnecmgpnaaaZQueryOnesGE
set_option linter.unusedVariables false
set_option maxRecDepth 8000
set_option maxHeartbeats 4000000
namespace Go.RM.Try
open Go.RM Go.Proofs
variable {X : FuncId → List PV → Heap → PV → Heap → Prop}
def r05_plain.f (a0 : TWeight) (a1 : Bool) (a2 : Bool) (a3 : Bool) (a4 : Bool) (r : Bool) : Prop :=
  r = (bif a1 then (bif a2 then (bif a3 then (a4 || ((a0.Parts.length : Int) == 0)) else (((a0.Cells.length : Int) == 0) && (a4 || ((a0.Parts.length : Int) == 0)))) else ((a0.Facts.Gen == 0) && (((a0.Facts.Rows.length : Int) == 0) && (bif a3 then (a4 || ((a0.Parts.length : Int) == 0)) else (((a0.Cells.length : Int) == 0) && (a4 || ((a0.Parts.length : Int) == 0))))))) else ((a0.Cost == 0) && (bif a2 then (bif a3 then (a4 || ((a0.Parts.length : Int) == 0)) else (((a0.Cells.length : Int) == 0) && (a4 || ((a0.Parts.length : Int) == 0)))) else ((a0.Facts.Gen == 0) && (((a0.Facts.Rows.length : Int) == 0) && (bif a3 then (a4 || ((a0.Parts.length : Int) == 0)) else (((a0.Cells.length : Int) == 0) && (a4 || ((a0.Parts.length : Int) == 0)))))))))
theorem r05_plain.D {a0 : TWeight} {a1 : Bool} {a2 : Bool} {a3 : Bool} {a4 : Bool} {r : Bool} (h : r05_plain.f a0 a1 a2 a3 a4 r) : D Try.prog X (.callH 69 [.agg (TWeight.lit a0), .val (.bool a1), .val (.bool a2), .val (.bool a3), .val (.bool a4)] [] (.val (.bool r)) []) := by
  unfold r05_plain.f at h
  refine .enter 51 0 fn69 rfl rfl rfl ?_
  refine .seq ?_
  refine .room 0 ?_
  refine .reg0 rfl (.op 0 rfl (bxP (s := 6) (cs := (TWeight.lit a0)) rfl ⟨rfl, by decide, rfl⟩ rfl) <| .op 0 rfl (asV rfl) <| .nil0) ?_
  refine .seq ?_
  refine .reg0 (e1 := listEnv [(10, .val (.bool (bif a1 then (bif a2 then (bif a3 then (a4 || ((a0.Parts.length : Int) == 0)) else (((a0.Cells.length : Int) == 0) && (a4 || ((a0.Parts.length : Int) == 0)))) else ((a0.Facts.Gen == 0) && (((a0.Facts.Rows.length : Int) == 0) && (bif a3 then (a4 || ((a0.Parts.length : Int) == 0)) else (((a0.Cells.length : Int) == 0) && (a4 || ((a0.Parts.length : Int) == 0))))))) else ((a0.Cost == 0) && (bif a2 then (bif a3 then (a4 || ((a0.Parts.length : Int) == 0)) else (((a0.Cells.length : Int) == 0) && (a4 || ((a0.Parts.length : Int) == 0)))) else ((a0.Facts.Gen == 0) && (((a0.Facts.Rows.length : Int) == 0) && (bif a3 then (a4 || ((a0.Parts.length : Int) == 0)) else (((a0.Cells.length : Int) == 0) && (a4 || ((a0.Parts.length : Int) == 0)))))))))))]) (H1 := [⟨6, [(TWeight.lit a0)], 0, none⟩]) rfl ?_ ?_
  · by_cases c1 : a1 = true
    · by_cases c2 : a2 = true
      · by_cases c3 : a3 = true
        · by_cases c4 : a4 = true
          · exact (.op 0 rfl (mvV rfl) <| .op 0 rfl (mvV rfl) <| .no (gF rfl rfl rfl c1) <| .no (gF rfl rfl rfl c1) <| .no (gF rfl rfl rfl c1) <| .op 0 rfl (pkTV rfl c1 rfl) <| .op 0 rfl (mvV rfl) <| .op 0 (gT rfl rfl rfl rfl) (mvV rfl) <| .op 0 (gT rfl rfl rfl rfl) (mvV rfl) <| .no (gF rfl rfl rfl c2) <| .no (gF rfl rfl rfl c2) <| .no (gF rfl rfl rfl c2) <| .no (gF rfl rfl rfl c2) <| .no (gF rfl rfl rfl c2) <| .no (gN rfl rfl rfl) <| .no (gN rfl rfl rfl) <| .no (gN rfl rfl rfl) <| .no (gN rfl rfl rfl) <| .no (gN rfl rfl rfl) <| .no (gF rfl rfl rfl c2) <| .op 0 (gT rfl rfl rfl rfl) (pkTV rfl c2 rfl) <| .op 0 rfl (pkTV rfl rfl rfl) <| .op 0 rfl (mvV rfl) <| .op 0 (gT rfl rfl rfl rfl) (mvV rfl) <| .op 0 (gT rfl rfl rfl rfl) (mvV rfl) <| .no (gF rfl rfl rfl c3) <| .no (gF rfl rfl rfl c3) <| .no (gF rfl rfl rfl c3) <| .no (gF rfl rfl rfl c3) <| .op 0 (gT rfl rfl rfl rfl) (pkTV rfl c3 rfl) <| .op 0 rfl (pkTV rfl rfl rfl) <| .op 0 rfl (mvV rfl) <| .op 0 (gT rfl rfl rfl rfl) (mvV rfl) <| .op 0 (gT rfl rfl rfl rfl) (mvV rfl) <| .no (gF rfl rfl rfl c4) <| .no (gF rfl rfl rfl c4) <| .no (gF rfl rfl rfl c4) <| .no (gF rfl rfl rfl c4) <| .op 0 (gT rfl rfl rfl rfl) (pkTV rfl c4 rfl) <| .op 0 rfl (pkTV rfl rfl rfl) <| .op 0 rfl (asV rfl) <| .nilL _ ⟨cB rfl (mIteT c1 (mIteT c2 (mIteT c3 (mOrT c4)))), trivial⟩)
          · exact (.op 0 rfl (mvV rfl) <| .op 0 rfl (mvV rfl) <| .no (gF rfl rfl rfl c1) <| .no (gF rfl rfl rfl c1) <| .no (gF rfl rfl rfl c1) <| .op 0 rfl (pkTV rfl c1 rfl) <| .op 0 rfl (mvV rfl) <| .op 0 (gT rfl rfl rfl rfl) (mvV rfl) <| .op 0 (gT rfl rfl rfl rfl) (mvV rfl) <| .no (gF rfl rfl rfl c2) <| .no (gF rfl rfl rfl c2) <| .no (gF rfl rfl rfl c2) <| .no (gF rfl rfl rfl c2) <| .no (gF rfl rfl rfl c2) <| .no (gN rfl rfl rfl) <| .no (gN rfl rfl rfl) <| .no (gN rfl rfl rfl) <| .no (gN rfl rfl rfl) <| .no (gN rfl rfl rfl) <| .no (gF rfl rfl rfl c2) <| .op 0 (gT rfl rfl rfl rfl) (pkTV rfl c2 rfl) <| .op 0 rfl (pkTV rfl rfl rfl) <| .op 0 rfl (mvV rfl) <| .op 0 (gT rfl rfl rfl rfl) (mvV rfl) <| .op 0 (gT rfl rfl rfl rfl) (mvV rfl) <| .no (gF rfl rfl rfl c3) <| .no (gF rfl rfl rfl c3) <| .no (gF rfl rfl rfl c3) <| .no (gF rfl rfl rfl c3) <| .op 0 (gT rfl rfl rfl rfl) (pkTV rfl c3 rfl) <| .op 0 rfl (pkTV rfl rfl rfl) <| .op 0 rfl (mvV rfl) <| .op 0 (gT rfl rfl rfl rfl) (mvV rfl) <| .op 0 (gT rfl rfl rfl rfl) (mvV rfl) <| .op 0 (gT rfl rfl rfl (Bool.eq_false_iff.mpr c4)) (faP fa48_4 rfl) <| .op 0 (gT rfl rfl rfl (Bool.eq_false_iff.mpr c4)) (ldP rfl sz46 ag46 rfl) <| .op 0 (gT rfl rfl rfl (Bool.eq_false_iff.mpr c4)) (lnR (l := a0.Parts) sl46 rfl) <| .op 0 (gT rfl rfl rfl (Bool.eq_false_iff.mpr c4)) (eqI rfl rfl) <| .op 0 (gT rfl rfl rfl rfl) (pkFV rfl (Bool.eq_false_iff.mpr c4) rfl) <| .op 0 rfl (pkTV rfl rfl rfl) <| .op 0 rfl (asV rfl) <| .nilL _ ⟨cB rfl (mIteT c1 (mIteT c2 (mIteT c3 (mOrF (Bool.eq_false_iff.mpr c4) rfl)))), trivial⟩)
        · by_cases c5 : (a0.Cells.length : Int) = 0
          · by_cases c6 : a4 = true
            · exact (.op 0 rfl (mvV rfl) <| .op 0 rfl (mvV rfl) <| .no (gF rfl rfl rfl c1) <| .no (gF rfl rfl rfl c1) <| .no (gF rfl rfl rfl c1) <| .op 0 rfl (pkTV rfl c1 rfl) <| .op 0 rfl (mvV rfl) <| .op 0 (gT rfl rfl rfl rfl) (mvV rfl) <| .op 0 (gT rfl rfl rfl rfl) (mvV rfl) <| .no (gF rfl rfl rfl c2) <| .no (gF rfl rfl rfl c2) <| .no (gF rfl rfl rfl c2) <| .no (gF rfl rfl rfl c2) <| .no (gF rfl rfl rfl c2) <| .no (gN rfl rfl rfl) <| .no (gN rfl rfl rfl) <| .no (gN rfl rfl rfl) <| .no (gN rfl rfl rfl) <| .no (gN rfl rfl rfl) <| .no (gF rfl rfl rfl c2) <| .op 0 (gT rfl rfl rfl rfl) (pkTV rfl c2 rfl) <| .op 0 rfl (pkTV rfl rfl rfl) <| .op 0 rfl (mvV rfl) <| .op 0 (gT rfl rfl rfl rfl) (mvV rfl) <| .op 0 (gT rfl rfl rfl rfl) (mvV rfl) <| .op 0 (gT rfl rfl rfl (Bool.eq_false_iff.mpr c3)) (faP fa48_3 rfl) <| .op 0 (gT rfl rfl rfl (Bool.eq_false_iff.mpr c3)) (ldP rfl sz45 ag45 rfl) <| .op 0 (gT rfl rfl rfl (Bool.eq_false_iff.mpr c3)) (lnR (l := a0.Cells) sl45 rfl) <| .op 0 (gT rfl rfl rfl (Bool.eq_false_iff.mpr c3)) (eqI rfl rfl) <| .op 0 (gT rfl rfl rfl rfl) (pkFV rfl (Bool.eq_false_iff.mpr c3) rfl) <| .op 0 rfl (pkTV rfl rfl rfl) <| .op 0 rfl (mvV rfl) <| .op 0 (gT rfl rfl rfl (beq_iff_eq.mpr c5)) (mvV rfl) <| .op 0 (gT rfl rfl rfl (beq_iff_eq.mpr c5)) (mvV rfl) <| .no (gF rfl rfl rfl c6) <| .no (gF rfl rfl rfl c6) <| .no (gF rfl rfl rfl c6) <| .no (gF rfl rfl rfl c6) <| .op 0 (gT rfl rfl rfl (beq_iff_eq.mpr c5)) (pkTV rfl c6 rfl) <| .op 0 rfl (pkTV rfl (beq_iff_eq.mpr c5) rfl) <| .op 0 rfl (asV rfl) <| .nilL _ ⟨cB rfl (mIteT c1 (mIteT c2 (mIteF (Bool.eq_false_iff.mpr c3) (mAndT (beq_iff_eq.mpr c5) (mOrT c6))))), trivial⟩)
            · exact (.op 0 rfl (mvV rfl) <| .op 0 rfl (mvV rfl) <| .no (gF rfl rfl rfl c1) <| .no (gF rfl rfl rfl c1) <| .no (gF rfl rfl rfl c1) <| .op 0 rfl (pkTV rfl c1 rfl) <| .op 0 rfl (mvV rfl) <| .op 0 (gT rfl rfl rfl rfl) (mvV rfl) <| .op 0 (gT rfl rfl rfl rfl) (mvV rfl) <| .no (gF rfl rfl rfl c2) <| .no (gF rfl rfl rfl c2) <| .no (gF rfl rfl rfl c2) <| .no (gF rfl rfl rfl c2) <| .no (gF rfl rfl rfl c2) <| .no (gN rfl rfl rfl) <| .no (gN rfl rfl rfl) <| .no (gN rfl rfl rfl) <| .no (gN rfl rfl rfl) <| .no (gN rfl rfl rfl) <| .no (gF rfl rfl rfl c2) <| .op 0 (gT rfl rfl rfl rfl) (pkTV rfl c2 rfl) <| .op 0 rfl (pkTV rfl rfl rfl) <| .op 0 rfl (mvV rfl) <| .op 0 (gT rfl rfl rfl rfl) (mvV rfl) <| .op 0 (gT rfl rfl rfl rfl) (mvV rfl) <| .op 0 (gT rfl rfl rfl (Bool.eq_false_iff.mpr c3)) (faP fa48_3 rfl) <| .op 0 (gT rfl rfl rfl (Bool.eq_false_iff.mpr c3)) (ldP rfl sz45 ag45 rfl) <| .op 0 (gT rfl rfl rfl (Bool.eq_false_iff.mpr c3)) (lnR (l := a0.Cells) sl45 rfl) <| .op 0 (gT rfl rfl rfl (Bool.eq_false_iff.mpr c3)) (eqI rfl rfl) <| .op 0 (gT rfl rfl rfl rfl) (pkFV rfl (Bool.eq_false_iff.mpr c3) rfl) <| .op 0 rfl (pkTV rfl rfl rfl) <| .op 0 rfl (mvV rfl) <| .op 0 (gT rfl rfl rfl (beq_iff_eq.mpr c5)) (mvV rfl) <| .op 0 (gT rfl rfl rfl (beq_iff_eq.mpr c5)) (mvV rfl) <| .op 0 (gT rfl rfl rfl (Bool.eq_false_iff.mpr c6)) (faP fa48_4 rfl) <| .op 0 (gT rfl rfl rfl (Bool.eq_false_iff.mpr c6)) (ldP rfl sz46 ag46 rfl) <| .op 0 (gT rfl rfl rfl (Bool.eq_false_iff.mpr c6)) (lnR (l := a0.Parts) sl46 rfl) <| .op 0 (gT rfl rfl rfl (Bool.eq_false_iff.mpr c6)) (eqI rfl rfl) <| .op 0 (gT rfl rfl rfl (beq_iff_eq.mpr c5)) (pkFV rfl (Bool.eq_false_iff.mpr c6) rfl) <| .op 0 rfl (pkTV rfl (beq_iff_eq.mpr c5) rfl) <| .op 0 rfl (asV rfl) <| .nilL _ ⟨cB rfl (mIteT c1 (mIteT c2 (mIteF (Bool.eq_false_iff.mpr c3) (mAndT (beq_iff_eq.mpr c5) (mOrF (Bool.eq_false_iff.mpr c6) rfl))))), trivial⟩)
          · exact (.op 0 rfl (mvV rfl) <| .op 0 rfl (mvV rfl) <| .no (gF rfl rfl rfl c1) <| .no (gF rfl rfl rfl c1) <| .no (gF rfl rfl rfl c1) <| .op 0 rfl (pkTV rfl c1 rfl) <| .op 0 rfl (mvV rfl) <| .op 0 (gT rfl rfl rfl rfl) (mvV rfl) <| .op 0 (gT rfl rfl rfl rfl) (mvV rfl) <| .no (gF rfl rfl rfl c2) <| .no (gF rfl rfl rfl c2) <| .no (gF rfl rfl rfl c2) <| .no (gF rfl rfl rfl c2) <| .no (gF rfl rfl rfl c2) <| .no (gN rfl rfl rfl) <| .no (gN rfl rfl rfl) <| .no (gN rfl rfl rfl) <| .no (gN rfl rfl rfl) <| .no (gN rfl rfl rfl) <| .no (gF rfl rfl rfl c2) <| .op 0 (gT rfl rfl rfl rfl) (pkTV rfl c2 rfl) <| .op 0 rfl (pkTV rfl rfl rfl) <| .op 0 rfl (mvV rfl) <| .op 0 (gT rfl rfl rfl rfl) (mvV rfl) <| .op 0 (gT rfl rfl rfl rfl) (mvV rfl) <| .op 0 (gT rfl rfl rfl (Bool.eq_false_iff.mpr c3)) (faP fa48_3 rfl) <| .op 0 (gT rfl rfl rfl (Bool.eq_false_iff.mpr c3)) (ldP rfl sz45 ag45 rfl) <| .op 0 (gT rfl rfl rfl (Bool.eq_false_iff.mpr c3)) (lnR (l := a0.Cells) sl45 rfl) <| .op 0 (gT rfl rfl rfl (Bool.eq_false_iff.mpr c3)) (eqI rfl rfl) <| .op 0 (gT rfl rfl rfl rfl) (pkFV rfl (Bool.eq_false_iff.mpr c3) rfl) <| .op 0 rfl (pkTV rfl rfl rfl) <| .op 0 rfl (mvV rfl) <| .no (gF rfl rfl rfl (beq_eq_false_iff_ne.mpr c5)) <| .no (gF rfl rfl rfl (beq_eq_false_iff_ne.mpr c5)) <| .no (gN rfl rfl rfl) <| .no (gN rfl rfl rfl) <| .no (gN rfl rfl rfl) <| .no (gN rfl rfl rfl) <| .no (gF rfl rfl rfl (beq_eq_false_iff_ne.mpr c5)) <| .op 0 rfl (pkFV rfl (beq_eq_false_iff_ne.mpr c5) rfl) <| .op 0 rfl (asV rfl) <| .nilL _ ⟨cB rfl (mIteT c1 (mIteT c2 (mIteF (Bool.eq_false_iff.mpr c3) (mAndF (beq_eq_false_iff_ne.mpr c5))))), trivial⟩)
      · by_cases c7 : a0.Facts.Gen = 0
        · by_cases c8 : (a0.Facts.Rows.length : Int) = 0
          · by_cases c9 : a3 = true
            · by_cases c10 : a4 = true
              · exact (.op 0 rfl (mvV rfl) <| .op 0 rfl (mvV rfl) <| .no (gF rfl rfl rfl c1) <| .no (gF rfl rfl rfl c1) <| .no (gF rfl rfl rfl c1) <| .op 0 rfl (pkTV rfl c1 rfl) <| .op 0 rfl (mvV rfl) <| .op 0 (gT rfl rfl rfl rfl) (mvV rfl) <| .op 0 (gT rfl rfl rfl rfl) (mvV rfl) <| .op 0 (gT rfl rfl rfl (Bool.eq_false_iff.mpr c2)) (faP fa48_2 rfl) <| .op 0 (gT rfl rfl rfl (Bool.eq_false_iff.mpr c2)) (faP fa44_0 rfl) <| .op 0 (gT rfl rfl rfl (Bool.eq_false_iff.mpr c2)) (ldP rfl sz41 ag41 rfl) <| .op 0 (gT rfl rfl rfl (Bool.eq_false_iff.mpr c2)) (eqI rfl rfl) <| .op 0 (gT rfl rfl rfl (Bool.eq_false_iff.mpr c2)) (mvV rfl) <| .op 0 (gT rfl rfl rfl (beq_iff_eq.mpr c7)) (faP fa48_2 rfl) <| .op 0 (gT rfl rfl rfl (beq_iff_eq.mpr c7)) (faP fa44_1 rfl) <| .op 0 (gT rfl rfl rfl (beq_iff_eq.mpr c7)) (ldP rfl sz42 ag42 rfl) <| .op 0 (gT rfl rfl rfl (beq_iff_eq.mpr c7)) (lnR (l := a0.Facts.Rows) sl42 rfl) <| .op 0 (gT rfl rfl rfl (beq_iff_eq.mpr c7)) (eqI rfl rfl) <| .op 0 (gT rfl rfl rfl (Bool.eq_false_iff.mpr c2)) (pkTV rfl (beq_iff_eq.mpr c7) rfl) <| .op 0 (gT rfl rfl rfl rfl) (pkFV rfl (Bool.eq_false_iff.mpr c2) rfl) <| .op 0 rfl (pkTV rfl rfl rfl) <| .op 0 rfl (mvV rfl) <| .op 0 (gT rfl rfl rfl (beq_iff_eq.mpr c8)) (mvV rfl) <| .op 0 (gT rfl rfl rfl (beq_iff_eq.mpr c8)) (mvV rfl) <| .no (gF rfl rfl rfl c9) <| .no (gF rfl rfl rfl c9) <| .no (gF rfl rfl rfl c9) <| .no (gF rfl rfl rfl c9) <| .op 0 (gT rfl rfl rfl (beq_iff_eq.mpr c8)) (pkTV rfl c9 rfl) <| .op 0 rfl (pkTV rfl (beq_iff_eq.mpr c8) rfl) <| .op 0 rfl (mvV rfl) <| .op 0 (gT rfl rfl rfl rfl) (mvV rfl) <| .op 0 (gT rfl rfl rfl rfl) (mvV rfl) <| .no (gF rfl rfl rfl c10) <| .no (gF rfl rfl rfl c10) <| .no (gF rfl rfl rfl c10) <| .no (gF rfl rfl rfl c10) <| .op 0 (gT rfl rfl rfl rfl) (pkTV rfl c10 rfl) <| .op 0 rfl (pkTV rfl rfl rfl) <| .op 0 rfl (asV rfl) <| .nilL _ ⟨cB rfl (mIteT c1 (mIteF (Bool.eq_false_iff.mpr c2) (mAndT (beq_iff_eq.mpr c7) (mAndT (beq_iff_eq.mpr c8) (mIteT c9 (mOrT c10)))))), trivial⟩)
              · exact (.op 0 rfl (mvV rfl) <| .op 0 rfl (mvV rfl) <| .no (gF rfl rfl rfl c1) <| .no (gF rfl rfl rfl c1) <| .no (gF rfl rfl rfl c1) <| .op 0 rfl (pkTV rfl c1 rfl) <| .op 0 rfl (mvV rfl) <| .op 0 (gT rfl rfl rfl rfl) (mvV rfl) <| .op 0 (gT rfl rfl rfl rfl) (mvV rfl) <| .op 0 (gT rfl rfl rfl (Bool.eq_false_iff.mpr c2)) (faP fa48_2 rfl) <| .op 0 (gT rfl rfl rfl (Bool.eq_false_iff.mpr c2)) (faP fa44_0 rfl) <| .op 0 (gT rfl rfl rfl (Bool.eq_false_iff.mpr c2)) (ldP rfl sz41 ag41 rfl) <| .op 0 (gT rfl rfl rfl (Bool.eq_false_iff.mpr c2)) (eqI rfl rfl) <| .op 0 (gT rfl rfl rfl (Bool.eq_false_iff.mpr c2)) (mvV rfl) <| .op 0 (gT rfl rfl rfl (beq_iff_eq.mpr c7)) (faP fa48_2 rfl) <| .op 0 (gT rfl rfl rfl (beq_iff_eq.mpr c7)) (faP fa44_1 rfl) <| .op 0 (gT rfl rfl rfl (beq_iff_eq.mpr c7)) (ldP rfl sz42 ag42 rfl) <| .op 0 (gT rfl rfl rfl (beq_iff_eq.mpr c7)) (lnR (l := a0.Facts.Rows) sl42 rfl) <| .op 0 (gT rfl rfl rfl (beq_iff_eq.mpr c7)) (eqI rfl rfl) <| .op 0 (gT rfl rfl rfl (Bool.eq_false_iff.mpr c2)) (pkTV rfl (beq_iff_eq.mpr c7) rfl) <| .op 0 (gT rfl rfl rfl rfl) (pkFV rfl (Bool.eq_false_iff.mpr c2) rfl) <| .op 0 rfl (pkTV rfl rfl rfl) <| .op 0 rfl (mvV rfl) <| .op 0 (gT rfl rfl rfl (beq_iff_eq.mpr c8)) (mvV rfl) <| .op 0 (gT rfl rfl rfl (beq_iff_eq.mpr c8)) (mvV rfl) <| .no (gF rfl rfl rfl c9) <| .no (gF rfl rfl rfl c9) <| .no (gF rfl rfl rfl c9) <| .no (gF rfl rfl rfl c9) <| .op 0 (gT rfl rfl rfl (beq_iff_eq.mpr c8)) (pkTV rfl c9 rfl) <| .op 0 rfl (pkTV rfl (beq_iff_eq.mpr c8) rfl) <| .op 0 rfl (mvV rfl) <| .op 0 (gT rfl rfl rfl rfl) (mvV rfl) <| .op 0 (gT rfl rfl rfl rfl) (mvV rfl) <| .op 0 (gT rfl rfl rfl (Bool.eq_false_iff.mpr c10)) (faP fa48_4 rfl) <| .op 0 (gT rfl rfl rfl (Bool.eq_false_iff.mpr c10)) (ldP rfl sz46 ag46 rfl) <| .op 0 (gT rfl rfl rfl (Bool.eq_false_iff.mpr c10)) (lnR (l := a0.Parts) sl46 rfl) <| .op 0 (gT rfl rfl rfl (Bool.eq_false_iff.mpr c10)) (eqI rfl rfl) <| .op 0 (gT rfl rfl rfl rfl) (pkFV rfl (Bool.eq_false_iff.mpr c10) rfl) <| .op 0 rfl (pkTV rfl rfl rfl) <| .op 0 rfl (asV rfl) <| .nilL _ ⟨cB rfl (mIteT c1 (mIteF (Bool.eq_false_iff.mpr c2) (mAndT (beq_iff_eq.mpr c7) (mAndT (beq_iff_eq.mpr c8) (mIteT c9 (mOrF (Bool.eq_false_iff.mpr c10) rfl)))))), trivial⟩)
            · by_cases c11 : (a0.Cells.length : Int) = 0
              · by_cases c12 : a4 = true
                · exact (.op 0 rfl (mvV rfl) <| .op 0 rfl (mvV rfl) <| .no (gF rfl rfl rfl c1) <| .no (gF rfl rfl rfl c1) <| .no (gF rfl rfl rfl c1) <| .op 0 rfl (pkTV rfl c1 rfl) <| .op 0 rfl (mvV rfl) <| .op 0 (gT rfl rfl rfl rfl) (mvV rfl) <| .op 0 (gT rfl rfl rfl rfl) (mvV rfl) <| .op 0 (gT rfl rfl rfl (Bool.eq_false_iff.mpr c2)) (faP fa48_2 rfl) <| .op 0 (gT rfl rfl rfl (Bool.eq_false_iff.mpr c2)) (faP fa44_0 rfl) <| .op 0 (gT rfl rfl rfl (Bool.eq_false_iff.mpr c2)) (ldP rfl sz41 ag41 rfl) <| .op 0 (gT rfl rfl rfl (Bool.eq_false_iff.mpr c2)) (eqI rfl rfl) <| .op 0 (gT rfl rfl rfl (Bool.eq_false_iff.mpr c2)) (mvV rfl) <| .op 0 (gT rfl rfl rfl (beq_iff_eq.mpr c7)) (faP fa48_2 rfl) <| .op 0 (gT rfl rfl rfl (beq_iff_eq.mpr c7)) (faP fa44_1 rfl) <| .op 0 (gT rfl rfl rfl (beq_iff_eq.mpr c7)) (ldP rfl sz42 ag42 rfl) <| .op 0 (gT rfl rfl rfl (beq_iff_eq.mpr c7)) (lnR (l := a0.Facts.Rows) sl42 rfl) <| .op 0 (gT rfl rfl rfl (beq_iff_eq.mpr c7)) (eqI rfl rfl) <| .op 0 (gT rfl rfl rfl (Bool.eq_false_iff.mpr c2)) (pkTV rfl (beq_iff_eq.mpr c7) rfl) <| .op 0 (gT rfl rfl rfl rfl) (pkFV rfl (Bool.eq_false_iff.mpr c2) rfl) <| .op 0 rfl (pkTV rfl rfl rfl) <| .op 0 rfl (mvV rfl) <| .op 0 (gT rfl rfl rfl (beq_iff_eq.mpr c8)) (mvV rfl) <| .op 0 (gT rfl rfl rfl (beq_iff_eq.mpr c8)) (mvV rfl) <| .op 0 (gT rfl rfl rfl (Bool.eq_false_iff.mpr c9)) (faP fa48_3 rfl) <| .op 0 (gT rfl rfl rfl (Bool.eq_false_iff.mpr c9)) (ldP rfl sz45 ag45 rfl) <| .op 0 (gT rfl rfl rfl (Bool.eq_false_iff.mpr c9)) (lnR (l := a0.Cells) sl45 rfl) <| .op 0 (gT rfl rfl rfl (Bool.eq_false_iff.mpr c9)) (eqI rfl rfl) <| .op 0 (gT rfl rfl rfl (beq_iff_eq.mpr c8)) (pkFV rfl (Bool.eq_false_iff.mpr c9) rfl) <| .op 0 rfl (pkTV rfl (beq_iff_eq.mpr c8) rfl) <| .op 0 rfl (mvV rfl) <| .op 0 (gT rfl rfl rfl (beq_iff_eq.mpr c11)) (mvV rfl) <| .op 0 (gT rfl rfl rfl (beq_iff_eq.mpr c11)) (mvV rfl) <| .no (gF rfl rfl rfl c12) <| .no (gF rfl rfl rfl c12) <| .no (gF rfl rfl rfl c12) <| .no (gF rfl rfl rfl c12) <| .op 0 (gT rfl rfl rfl (beq_iff_eq.mpr c11)) (pkTV rfl c12 rfl) <| .op 0 rfl (pkTV rfl (beq_iff_eq.mpr c11) rfl) <| .op 0 rfl (asV rfl) <| .nilL _ ⟨cB rfl (mIteT c1 (mIteF (Bool.eq_false_iff.mpr c2) (mAndT (beq_iff_eq.mpr c7) (mAndT (beq_iff_eq.mpr c8) (mIteF (Bool.eq_false_iff.mpr c9) (mAndT (beq_iff_eq.mpr c11) (mOrT c12))))))), trivial⟩)
                · exact (.op 0 rfl (mvV rfl) <| .op 0 rfl (mvV rfl) <| .no (gF rfl rfl rfl c1) <| .no (gF rfl rfl rfl c1) <| .no (gF rfl rfl rfl c1) <| .op 0 rfl (pkTV rfl c1 rfl) <| .op 0 rfl (mvV rfl) <| .op 0 (gT rfl rfl rfl rfl) (mvV rfl) <| .op 0 (gT rfl rfl rfl rfl) (mvV rfl) <| .op 0 (gT rfl rfl rfl (Bool.eq_false_iff.mpr c2)) (faP fa48_2 rfl) <| .op 0 (gT rfl rfl rfl (Bool.eq_false_iff.mpr c2)) (faP fa44_0 rfl) <| .op 0 (gT rfl rfl rfl (Bool.eq_false_iff.mpr c2)) (ldP rfl sz41 ag41 rfl) <| .op 0 (gT rfl rfl rfl (Bool.eq_false_iff.mpr c2)) (eqI rfl rfl) <| .op 0 (gT rfl rfl rfl (Bool.eq_false_iff.mpr c2)) (mvV rfl) <| .op 0 (gT rfl rfl rfl (beq_iff_eq.mpr c7)) (faP fa48_2 rfl) <| .op 0 (gT rfl rfl rfl (beq_iff_eq.mpr c7)) (faP fa44_1 rfl) <| .op 0 (gT rfl rfl rfl (beq_iff_eq.mpr c7)) (ldP rfl sz42 ag42 rfl) <| .op 0 (gT rfl rfl rfl (beq_iff_eq.mpr c7)) (lnR (l := a0.Facts.Rows) sl42 rfl) <| .op 0 (gT rfl rfl rfl (beq_iff_eq.mpr c7)) (eqI rfl rfl) <| .op 0 (gT rfl rfl rfl (Bool.eq_false_iff.mpr c2)) (pkTV rfl (beq_iff_eq.mpr c7) rfl) <| .op 0 (gT rfl rfl rfl rfl) (pkFV rfl (Bool.eq_false_iff.mpr c2) rfl) <| .op 0 rfl (pkTV rfl rfl rfl) <| .op 0 rfl (mvV rfl) <| .op 0 (gT rfl rfl rfl (beq_iff_eq.mpr c8)) (mvV rfl) <| .op 0 (gT rfl rfl rfl (beq_iff_eq.mpr c8)) (mvV rfl) <| .op 0 (gT rfl rfl rfl (Bool.eq_false_iff.mpr c9)) (faP fa48_3 rfl) <| .op 0 (gT rfl rfl rfl (Bool.eq_false_iff.mpr c9)) (ldP rfl sz45 ag45 rfl) <| .op 0 (gT rfl rfl rfl (Bool.eq_false_iff.mpr c9)) (lnR (l := a0.Cells) sl45 rfl) <| .op 0 (gT rfl rfl rfl (Bool.eq_false_iff.mpr c9)) (eqI rfl rfl) <| .op 0 (gT rfl rfl rfl (beq_iff_eq.mpr c8)) (pkFV rfl (Bool.eq_false_iff.mpr c9) rfl) <| .op 0 rfl (pkTV rfl (beq_iff_eq.mpr c8) rfl) <| .op 0 rfl (mvV rfl) <| .op 0 (gT rfl rfl rfl (beq_iff_eq.mpr c11)) (mvV rfl) <| .op 0 (gT rfl rfl rfl (beq_iff_eq.mpr c11)) (mvV rfl) <| .op 0 (gT rfl rfl rfl (Bool.eq_false_iff.mpr c12)) (faP fa48_4 rfl) <| .op 0 (gT rfl rfl rfl (Bool.eq_false_iff.mpr c12)) (ldP rfl sz46 ag46 rfl) <| .op 0 (gT rfl rfl rfl (Bool.eq_false_iff.mpr c12)) (lnR (l := a0.Parts) sl46 rfl) <| .op 0 (gT rfl rfl rfl (Bool.eq_false_iff.mpr c12)) (eqI rfl rfl) <| .op 0 (gT rfl rfl rfl (beq_iff_eq.mpr c11)) (pkFV rfl (Bool.eq_false_iff.mpr c12) rfl) <| .op 0 rfl (pkTV rfl (beq_iff_eq.mpr c11) rfl) <| .op 0 rfl (asV rfl) <| .nilL _ ⟨cB rfl (mIteT c1 (mIteF (Bool.eq_false_iff.mpr c2) (mAndT (beq_iff_eq.mpr c7) (mAndT (beq_iff_eq.mpr c8) (mIteF (Bool.eq_false_iff.mpr c9) (mAndT (beq_iff_eq.mpr c11) (mOrF (Bool.eq_false_iff.mpr c12) rfl))))))), trivial⟩)
              · exact (.op 0 rfl (mvV rfl) <| .op 0 rfl (mvV rfl) <| .no (gF rfl rfl rfl c1) <| .no (gF rfl rfl rfl c1) <| .no (gF rfl rfl rfl c1) <| .op 0 rfl (pkTV rfl c1 rfl) <| .op 0 rfl (mvV rfl) <| .op 0 (gT rfl rfl rfl rfl) (mvV rfl) <| .op 0 (gT rfl rfl rfl rfl) (mvV rfl) <| .op 0 (gT rfl rfl rfl (Bool.eq_false_iff.mpr c2)) (faP fa48_2 rfl) <| .op 0 (gT rfl rfl rfl (Bool.eq_false_iff.mpr c2)) (faP fa44_0 rfl) <| .op 0 (gT rfl rfl rfl (Bool.eq_false_iff.mpr c2)) (ldP rfl sz41 ag41 rfl) <| .op 0 (gT rfl rfl rfl (Bool.eq_false_iff.mpr c2)) (eqI rfl rfl) <| .op 0 (gT rfl rfl rfl (Bool.eq_false_iff.mpr c2)) (mvV rfl) <| .op 0 (gT rfl rfl rfl (beq_iff_eq.mpr c7)) (faP fa48_2 rfl) <| .op 0 (gT rfl rfl rfl (beq_iff_eq.mpr c7)) (faP fa44_1 rfl) <| .op 0 (gT rfl rfl rfl (beq_iff_eq.mpr c7)) (ldP rfl sz42 ag42 rfl) <| .op 0 (gT rfl rfl rfl (beq_iff_eq.mpr c7)) (lnR (l := a0.Facts.Rows) sl42 rfl) <| .op 0 (gT rfl rfl rfl (beq_iff_eq.mpr c7)) (eqI rfl rfl) <| .op 0 (gT rfl rfl rfl (Bool.eq_false_iff.mpr c2)) (pkTV rfl (beq_iff_eq.mpr c7) rfl) <| .op 0 (gT rfl rfl rfl rfl) (pkFV rfl (Bool.eq_false_iff.mpr c2) rfl) <| .op 0 rfl (pkTV rfl rfl rfl) <| .op 0 rfl (mvV rfl) <| .op 0 (gT rfl rfl rfl (beq_iff_eq.mpr c8)) (mvV rfl) <| .op 0 (gT rfl rfl rfl (beq_iff_eq.mpr c8)) (mvV rfl) <| .op 0 (gT rfl rfl rfl (Bool.eq_false_iff.mpr c9)) (faP fa48_3 rfl) <| .op 0 (gT rfl rfl rfl (Bool.eq_false_iff.mpr c9)) (ldP rfl sz45 ag45 rfl) <| .op 0 (gT rfl rfl rfl (Bool.eq_false_iff.mpr c9)) (lnR (l := a0.Cells) sl45 rfl) <| .op 0 (gT rfl rfl rfl (Bool.eq_false_iff.mpr c9)) (eqI rfl rfl) <| .op 0 (gT rfl rfl rfl (beq_iff_eq.mpr c8)) (pkFV rfl (Bool.eq_false_iff.mpr c9) rfl) <| .op 0 rfl (pkTV rfl (beq_iff_eq.mpr c8) rfl) <| .op 0 rfl (mvV rfl) <| .no (gF rfl rfl rfl (beq_eq_false_iff_ne.mpr c11)) <| .no (gF rfl rfl rfl (beq_eq_false_iff_ne.mpr c11)) <| .no (gN rfl rfl rfl) <| .no (gN rfl rfl rfl) <| .no (gN rfl rfl rfl) <| .no (gN rfl rfl rfl) <| .no (gF rfl rfl rfl (beq_eq_false_iff_ne.mpr c11)) <| .op 0 rfl (pkFV rfl (beq_eq_false_iff_ne.mpr c11) rfl) <| .op 0 rfl (asV rfl) <| .nilL _ ⟨cB rfl (mIteT c1 (mIteF (Bool.eq_false_iff.mpr c2) (mAndT (beq_iff_eq.mpr c7) (mAndT (beq_iff_eq.mpr c8) (mIteF (Bool.eq_false_iff.mpr c9) (mAndF (beq_eq_false_iff_ne.mpr c11))))))), trivial⟩)
          · exact (.op 0 rfl (mvV rfl) <| .op 0 rfl (mvV rfl) <| .no (gF rfl rfl rfl c1) <| .no (gF rfl rfl rfl c1) <| .no (gF rfl rfl rfl c1) <| .op 0 rfl (pkTV rfl c1 rfl) <| .op 0 rfl (mvV rfl) <| .op 0 (gT rfl rfl rfl rfl) (mvV rfl) <| .op 0 (gT rfl rfl rfl rfl) (mvV rfl) <| .op 0 (gT rfl rfl rfl (Bool.eq_false_iff.mpr c2)) (faP fa48_2 rfl) <| .op 0 (gT rfl rfl rfl (Bool.eq_false_iff.mpr c2)) (faP fa44_0 rfl) <| .op 0 (gT rfl rfl rfl (Bool.eq_false_iff.mpr c2)) (ldP rfl sz41 ag41 rfl) <| .op 0 (gT rfl rfl rfl (Bool.eq_false_iff.mpr c2)) (eqI rfl rfl) <| .op 0 (gT rfl rfl rfl (Bool.eq_false_iff.mpr c2)) (mvV rfl) <| .op 0 (gT rfl rfl rfl (beq_iff_eq.mpr c7)) (faP fa48_2 rfl) <| .op 0 (gT rfl rfl rfl (beq_iff_eq.mpr c7)) (faP fa44_1 rfl) <| .op 0 (gT rfl rfl rfl (beq_iff_eq.mpr c7)) (ldP rfl sz42 ag42 rfl) <| .op 0 (gT rfl rfl rfl (beq_iff_eq.mpr c7)) (lnR (l := a0.Facts.Rows) sl42 rfl) <| .op 0 (gT rfl rfl rfl (beq_iff_eq.mpr c7)) (eqI rfl rfl) <| .op 0 (gT rfl rfl rfl (Bool.eq_false_iff.mpr c2)) (pkTV rfl (beq_iff_eq.mpr c7) rfl) <| .op 0 (gT rfl rfl rfl rfl) (pkFV rfl (Bool.eq_false_iff.mpr c2) rfl) <| .op 0 rfl (pkTV rfl rfl rfl) <| .op 0 rfl (mvV rfl) <| .no (gF rfl rfl rfl (beq_eq_false_iff_ne.mpr c8)) <| .no (gF rfl rfl rfl (beq_eq_false_iff_ne.mpr c8)) <| .no (gN rfl rfl rfl) <| .no (gN rfl rfl rfl) <| .no (gN rfl rfl rfl) <| .no (gN rfl rfl rfl) <| .no (gF rfl rfl rfl (beq_eq_false_iff_ne.mpr c8)) <| .op 0 rfl (pkFV rfl (beq_eq_false_iff_ne.mpr c8) rfl) <| .op 0 rfl (mvV rfl) <| .no (gF rfl rfl rfl rfl) <| .no (gF rfl rfl rfl rfl) <| .no (gN rfl rfl rfl) <| .no (gN rfl rfl rfl) <| .no (gN rfl rfl rfl) <| .no (gN rfl rfl rfl) <| .no (gF rfl rfl rfl rfl) <| .op 0 rfl (pkFV rfl rfl rfl) <| .op 0 rfl (asV rfl) <| .nilL _ ⟨cB rfl (mIteT c1 (mIteF (Bool.eq_false_iff.mpr c2) (mAndT (beq_iff_eq.mpr c7) (mAndF (beq_eq_false_iff_ne.mpr c8))))), trivial⟩)
        · exact (.op 0 rfl (mvV rfl) <| .op 0 rfl (mvV rfl) <| .no (gF rfl rfl rfl c1) <| .no (gF rfl rfl rfl c1) <| .no (gF rfl rfl rfl c1) <| .op 0 rfl (pkTV rfl c1 rfl) <| .op 0 rfl (mvV rfl) <| .op 0 (gT rfl rfl rfl rfl) (mvV rfl) <| .op 0 (gT rfl rfl rfl rfl) (mvV rfl) <| .op 0 (gT rfl rfl rfl (Bool.eq_false_iff.mpr c2)) (faP fa48_2 rfl) <| .op 0 (gT rfl rfl rfl (Bool.eq_false_iff.mpr c2)) (faP fa44_0 rfl) <| .op 0 (gT rfl rfl rfl (Bool.eq_false_iff.mpr c2)) (ldP rfl sz41 ag41 rfl) <| .op 0 (gT rfl rfl rfl (Bool.eq_false_iff.mpr c2)) (eqI rfl rfl) <| .op 0 (gT rfl rfl rfl (Bool.eq_false_iff.mpr c2)) (mvV rfl) <| .no (gF rfl rfl rfl (beq_eq_false_iff_ne.mpr c7)) <| .no (gF rfl rfl rfl (beq_eq_false_iff_ne.mpr c7)) <| .no (gF rfl rfl rfl (beq_eq_false_iff_ne.mpr c7)) <| .no (gF rfl rfl rfl (beq_eq_false_iff_ne.mpr c7)) <| .no (gF rfl rfl rfl (beq_eq_false_iff_ne.mpr c7)) <| .op 0 (gT rfl rfl rfl (Bool.eq_false_iff.mpr c2)) (pkFV rfl (beq_eq_false_iff_ne.mpr c7) rfl) <| .op 0 (gT rfl rfl rfl rfl) (pkFV rfl (Bool.eq_false_iff.mpr c2) rfl) <| .op 0 rfl (pkTV rfl rfl rfl) <| .op 0 rfl (mvV rfl) <| .no (gF rfl rfl rfl rfl) <| .no (gF rfl rfl rfl rfl) <| .no (gN rfl rfl rfl) <| .no (gN rfl rfl rfl) <| .no (gN rfl rfl rfl) <| .no (gN rfl rfl rfl) <| .no (gF rfl rfl rfl rfl) <| .op 0 rfl (pkFV rfl rfl rfl) <| .op 0 rfl (mvV rfl) <| .no (gF rfl rfl rfl rfl) <| .no (gF rfl rfl rfl rfl) <| .no (gN rfl rfl rfl) <| .no (gN rfl rfl rfl) <| .no (gN rfl rfl rfl) <| .no (gN rfl rfl rfl) <| .no (gF rfl rfl rfl rfl) <| .op 0 rfl (pkFV rfl rfl rfl) <| .op 0 rfl (asV rfl) <| .nilL _ ⟨cB rfl (mIteT c1 (mIteF (Bool.eq_false_iff.mpr c2) (mAndF (beq_eq_false_iff_ne.mpr c7)))), trivial⟩)
    · by_cases c13 : a0.Cost = 0
      · by_cases c14 : a2 = true
        · by_cases c15 : a3 = true
          · by_cases c16 : a4 = true
            · exact (.op 0 rfl (mvV rfl) <| .op 0 rfl (mvV rfl) <| .op 0 (gT rfl rfl rfl (Bool.eq_false_iff.mpr c1)) (faP fa48_1 rfl) <| .op 0 (gT rfl rfl rfl (Bool.eq_false_iff.mpr c1)) (ldP rfl sz3 ag3 rfl) <| .op 0 (gT rfl rfl rfl (Bool.eq_false_iff.mpr c1)) (eqI rfl rfl) <| .op 0 rfl (pkFV rfl (Bool.eq_false_iff.mpr c1) rfl) <| .op 0 rfl (mvV rfl) <| .op 0 (gT rfl rfl rfl (beq_iff_eq.mpr c13)) (mvV rfl) <| .op 0 (gT rfl rfl rfl (beq_iff_eq.mpr c13)) (mvV rfl) <| .no (gF rfl rfl rfl c14) <| .no (gF rfl rfl rfl c14) <| .no (gF rfl rfl rfl c14) <| .no (gF rfl rfl rfl c14) <| .no (gF rfl rfl rfl c14) <| .no (gN rfl rfl rfl) <| .no (gN rfl rfl rfl) <| .no (gN rfl rfl rfl) <| .no (gN rfl rfl rfl) <| .no (gN rfl rfl rfl) <| .no (gF rfl rfl rfl c14) <| .op 0 (gT rfl rfl rfl (beq_iff_eq.mpr c13)) (pkTV rfl c14 rfl) <| .op 0 rfl (pkTV rfl (beq_iff_eq.mpr c13) rfl) <| .op 0 rfl (mvV rfl) <| .op 0 (gT rfl rfl rfl rfl) (mvV rfl) <| .op 0 (gT rfl rfl rfl rfl) (mvV rfl) <| .no (gF rfl rfl rfl c15) <| .no (gF rfl rfl rfl c15) <| .no (gF rfl rfl rfl c15) <| .no (gF rfl rfl rfl c15) <| .op 0 (gT rfl rfl rfl rfl) (pkTV rfl c15 rfl) <| .op 0 rfl (pkTV rfl rfl rfl) <| .op 0 rfl (mvV rfl) <| .op 0 (gT rfl rfl rfl rfl) (mvV rfl) <| .op 0 (gT rfl rfl rfl rfl) (mvV rfl) <| .no (gF rfl rfl rfl c16) <| .no (gF rfl rfl rfl c16) <| .no (gF rfl rfl rfl c16) <| .no (gF rfl rfl rfl c16) <| .op 0 (gT rfl rfl rfl rfl) (pkTV rfl c16 rfl) <| .op 0 rfl (pkTV rfl rfl rfl) <| .op 0 rfl (asV rfl) <| .nilL _ ⟨cB rfl (mIteF (Bool.eq_false_iff.mpr c1) (mAndT (beq_iff_eq.mpr c13) (mIteT c14 (mIteT c15 (mOrT c16))))), trivial⟩)
            · exact (.op 0 rfl (mvV rfl) <| .op 0 rfl (mvV rfl) <| .op 0 (gT rfl rfl rfl (Bool.eq_false_iff.mpr c1)) (faP fa48_1 rfl) <| .op 0 (gT rfl rfl rfl (Bool.eq_false_iff.mpr c1)) (ldP rfl sz3 ag3 rfl) <| .op 0 (gT rfl rfl rfl (Bool.eq_false_iff.mpr c1)) (eqI rfl rfl) <| .op 0 rfl (pkFV rfl (Bool.eq_false_iff.mpr c1) rfl) <| .op 0 rfl (mvV rfl) <| .op 0 (gT rfl rfl rfl (beq_iff_eq.mpr c13)) (mvV rfl) <| .op 0 (gT rfl rfl rfl (beq_iff_eq.mpr c13)) (mvV rfl) <| .no (gF rfl rfl rfl c14) <| .no (gF rfl rfl rfl c14) <| .no (gF rfl rfl rfl c14) <| .no (gF rfl rfl rfl c14) <| .no (gF rfl rfl rfl c14) <| .no (gN rfl rfl rfl) <| .no (gN rfl rfl rfl) <| .no (gN rfl rfl rfl) <| .no (gN rfl rfl rfl) <| .no (gN rfl rfl rfl) <| .no (gF rfl rfl rfl c14) <| .op 0 (gT rfl rfl rfl (beq_iff_eq.mpr c13)) (pkTV rfl c14 rfl) <| .op 0 rfl (pkTV rfl (beq_iff_eq.mpr c13) rfl) <| .op 0 rfl (mvV rfl) <| .op 0 (gT rfl rfl rfl rfl) (mvV rfl) <| .op 0 (gT rfl rfl rfl rfl) (mvV rfl) <| .no (gF rfl rfl rfl c15) <| .no (gF rfl rfl rfl c15) <| .no (gF rfl rfl rfl c15) <| .no (gF rfl rfl rfl c15) <| .op 0 (gT rfl rfl rfl rfl) (pkTV rfl c15 rfl) <| .op 0 rfl (pkTV rfl rfl rfl) <| .op 0 rfl (mvV rfl) <| .op 0 (gT rfl rfl rfl rfl) (mvV rfl) <| .op 0 (gT rfl rfl rfl rfl) (mvV rfl) <| .op 0 (gT rfl rfl rfl (Bool.eq_false_iff.mpr c16)) (faP fa48_4 rfl) <| .op 0 (gT rfl rfl rfl (Bool.eq_false_iff.mpr c16)) (ldP rfl sz46 ag46 rfl) <| .op 0 (gT rfl rfl rfl (Bool.eq_false_iff.mpr c16)) (lnR (l := a0.Parts) sl46 rfl) <| .op 0 (gT rfl rfl rfl (Bool.eq_false_iff.mpr c16)) (eqI rfl rfl) <| .op 0 (gT rfl rfl rfl rfl) (pkFV rfl (Bool.eq_false_iff.mpr c16) rfl) <| .op 0 rfl (pkTV rfl rfl rfl) <| .op 0 rfl (asV rfl) <| .nilL _ ⟨cB rfl (mIteF (Bool.eq_false_iff.mpr c1) (mAndT (beq_iff_eq.mpr c13) (mIteT c14 (mIteT c15 (mOrF (Bool.eq_false_iff.mpr c16) rfl))))), trivial⟩)
          · by_cases c17 : (a0.Cells.length : Int) = 0
            · by_cases c18 : a4 = true
              · exact (.op 0 rfl (mvV rfl) <| .op 0 rfl (mvV rfl) <| .op 0 (gT rfl rfl rfl (Bool.eq_false_iff.mpr c1)) (faP fa48_1 rfl) <| .op 0 (gT rfl rfl rfl (Bool.eq_false_iff.mpr c1)) (ldP rfl sz3 ag3 rfl) <| .op 0 (gT rfl rfl rfl (Bool.eq_false_iff.mpr c1)) (eqI rfl rfl) <| .op 0 rfl (pkFV rfl (Bool.eq_false_iff.mpr c1) rfl) <| .op 0 rfl (mvV rfl) <| .op 0 (gT rfl rfl rfl (beq_iff_eq.mpr c13)) (mvV rfl) <| .op 0 (gT rfl rfl rfl (beq_iff_eq.mpr c13)) (mvV rfl) <| .no (gF rfl rfl rfl c14) <| .no (gF rfl rfl rfl c14) <| .no (gF rfl rfl rfl c14) <| .no (gF rfl rfl rfl c14) <| .no (gF rfl rfl rfl c14) <| .no (gN rfl rfl rfl) <| .no (gN rfl rfl rfl) <| .no (gN rfl rfl rfl) <| .no (gN rfl rfl rfl) <| .no (gN rfl rfl rfl) <| .no (gF rfl rfl rfl c14) <| .op 0 (gT rfl rfl rfl (beq_iff_eq.mpr c13)) (pkTV rfl c14 rfl) <| .op 0 rfl (pkTV rfl (beq_iff_eq.mpr c13) rfl) <| .op 0 rfl (mvV rfl) <| .op 0 (gT rfl rfl rfl rfl) (mvV rfl) <| .op 0 (gT rfl rfl rfl rfl) (mvV rfl) <| .op 0 (gT rfl rfl rfl (Bool.eq_false_iff.mpr c15)) (faP fa48_3 rfl) <| .op 0 (gT rfl rfl rfl (Bool.eq_false_iff.mpr c15)) (ldP rfl sz45 ag45 rfl) <| .op 0 (gT rfl rfl rfl (Bool.eq_false_iff.mpr c15)) (lnR (l := a0.Cells) sl45 rfl) <| .op 0 (gT rfl rfl rfl (Bool.eq_false_iff.mpr c15)) (eqI rfl rfl) <| .op 0 (gT rfl rfl rfl rfl) (pkFV rfl (Bool.eq_false_iff.mpr c15) rfl) <| .op 0 rfl (pkTV rfl rfl rfl) <| .op 0 rfl (mvV rfl) <| .op 0 (gT rfl rfl rfl (beq_iff_eq.mpr c17)) (mvV rfl) <| .op 0 (gT rfl rfl rfl (beq_iff_eq.mpr c17)) (mvV rfl) <| .no (gF rfl rfl rfl c18) <| .no (gF rfl rfl rfl c18) <| .no (gF rfl rfl rfl c18) <| .no (gF rfl rfl rfl c18) <| .op 0 (gT rfl rfl rfl (beq_iff_eq.mpr c17)) (pkTV rfl c18 rfl) <| .op 0 rfl (pkTV rfl (beq_iff_eq.mpr c17) rfl) <| .op 0 rfl (asV rfl) <| .nilL _ ⟨cB rfl (mIteF (Bool.eq_false_iff.mpr c1) (mAndT (beq_iff_eq.mpr c13) (mIteT c14 (mIteF (Bool.eq_false_iff.mpr c15) (mAndT (beq_iff_eq.mpr c17) (mOrT c18)))))), trivial⟩)
              · exact (.op 0 rfl (mvV rfl) <| .op 0 rfl (mvV rfl) <| .op 0 (gT rfl rfl rfl (Bool.eq_false_iff.mpr c1)) (faP fa48_1 rfl) <| .op 0 (gT rfl rfl rfl (Bool.eq_false_iff.mpr c1)) (ldP rfl sz3 ag3 rfl) <| .op 0 (gT rfl rfl rfl (Bool.eq_false_iff.mpr c1)) (eqI rfl rfl) <| .op 0 rfl (pkFV rfl (Bool.eq_false_iff.mpr c1) rfl) <| .op 0 rfl (mvV rfl) <| .op 0 (gT rfl rfl rfl (beq_iff_eq.mpr c13)) (mvV rfl) <| .op 0 (gT rfl rfl rfl (beq_iff_eq.mpr c13)) (mvV rfl) <| .no (gF rfl rfl rfl c14) <| .no (gF rfl rfl rfl c14) <| .no (gF rfl rfl rfl c14) <| .no (gF rfl rfl rfl c14) <| .no (gF rfl rfl rfl c14) <| .no (gN rfl rfl rfl) <| .no (gN rfl rfl rfl) <| .no (gN rfl rfl rfl) <| .no (gN rfl rfl rfl) <| .no (gN rfl rfl rfl) <| .no (gF rfl rfl rfl c14) <| .op 0 (gT rfl rfl rfl (beq_iff_eq.mpr c13)) (pkTV rfl c14 rfl) <| .op 0 rfl (pkTV rfl (beq_iff_eq.mpr c13) rfl) <| .op 0 rfl (mvV rfl) <| .op 0 (gT rfl rfl rfl rfl) (mvV rfl) <| .op 0 (gT rfl rfl rfl rfl) (mvV rfl) <| .op 0 (gT rfl rfl rfl (Bool.eq_false_iff.mpr c15)) (faP fa48_3 rfl) <| .op 0 (gT rfl rfl rfl (Bool.eq_false_iff.mpr c15)) (ldP rfl sz45 ag45 rfl) <| .op 0 (gT rfl rfl rfl (Bool.eq_false_iff.mpr c15)) (lnR (l := a0.Cells) sl45 rfl) <| .op 0 (gT rfl rfl rfl (Bool.eq_false_iff.mpr c15)) (eqI rfl rfl) <| .op 0 (gT rfl rfl rfl rfl) (pkFV rfl (Bool.eq_false_iff.mpr c15) rfl) <| .op 0 rfl (pkTV rfl rfl rfl) <| .op 0 rfl (mvV rfl) <| .op 0 (gT rfl rfl rfl (beq_iff_eq.mpr c17)) (mvV rfl) <| .op 0 (gT rfl rfl rfl (beq_iff_eq.mpr c17)) (mvV rfl) <| .op 0 (gT rfl rfl rfl (Bool.eq_false_iff.mpr c18)) (faP fa48_4 rfl) <| .op 0 (gT rfl rfl rfl (Bool.eq_false_iff.mpr c18)) (ldP rfl sz46 ag46 rfl) <| .op 0 (gT rfl rfl rfl (Bool.eq_false_iff.mpr c18)) (lnR (l := a0.Parts) sl46 rfl) <| .op 0 (gT rfl rfl rfl (Bool.eq_false_iff.mpr c18)) (eqI rfl rfl) <| .op 0 (gT rfl rfl rfl (beq_iff_eq.mpr c17)) (pkFV rfl (Bool.eq_false_iff.mpr c18) rfl) <| .op 0 rfl (pkTV rfl (beq_iff_eq.mpr c17) rfl) <| .op 0 rfl (asV rfl) <| .nilL _ ⟨cB rfl (mIteF (Bool.eq_false_iff.mpr c1) (mAndT (beq_iff_eq.mpr c13) (mIteT c14 (mIteF (Bool.eq_false_iff.mpr c15) (mAndT (beq_iff_eq.mpr c17) (mOrF (Bool.eq_false_iff.mpr c18) rfl)))))), trivial⟩)
            · exact (.op 0 rfl (mvV rfl) <| .op 0 rfl (mvV rfl) <| .op 0 (gT rfl rfl rfl (Bool.eq_false_iff.mpr c1)) (faP fa48_1 rfl) <| .op 0 (gT rfl rfl rfl (Bool.eq_false_iff.mpr c1)) (ldP rfl sz3 ag3 rfl) <| .op 0 (gT rfl rfl rfl (Bool.eq_false_iff.mpr c1)) (eqI rfl rfl) <| .op 0 rfl (pkFV rfl (Bool.eq_false_iff.mpr c1) rfl) <| .op 0 rfl (mvV rfl) <| .op 0 (gT rfl rfl rfl (beq_iff_eq.mpr c13)) (mvV rfl) <| .op 0 (gT rfl rfl rfl (beq_iff_eq.mpr c13)) (mvV rfl) <| .no (gF rfl rfl rfl c14) <| .no (gF rfl rfl rfl c14) <| .no (gF rfl rfl rfl c14) <| .no (gF rfl rfl rfl c14) <| .no (gF rfl rfl rfl c14) <| .no (gN rfl rfl rfl) <| .no (gN rfl rfl rfl) <| .no (gN rfl rfl rfl) <| .no (gN rfl rfl rfl) <| .no (gN rfl rfl rfl) <| .no (gF rfl rfl rfl c14) <| .op 0 (gT rfl rfl rfl (beq_iff_eq.mpr c13)) (pkTV rfl c14 rfl) <| .op 0 rfl (pkTV rfl (beq_iff_eq.mpr c13) rfl) <| .op 0 rfl (mvV rfl) <| .op 0 (gT rfl rfl rfl rfl) (mvV rfl) <| .op 0 (gT rfl rfl rfl rfl) (mvV rfl) <| .op 0 (gT rfl rfl rfl (Bool.eq_false_iff.mpr c15)) (faP fa48_3 rfl) <| .op 0 (gT rfl rfl rfl (Bool.eq_false_iff.mpr c15)) (ldP rfl sz45 ag45 rfl) <| .op 0 (gT rfl rfl rfl (Bool.eq_false_iff.mpr c15)) (lnR (l := a0.Cells) sl45 rfl) <| .op 0 (gT rfl rfl rfl (Bool.eq_false_iff.mpr c15)) (eqI rfl rfl) <| .op 0 (gT rfl rfl rfl rfl) (pkFV rfl (Bool.eq_false_iff.mpr c15) rfl) <| .op 0 rfl (pkTV rfl rfl rfl) <| .op 0 rfl (mvV rfl) <| .no (gF rfl rfl rfl (beq_eq_false_iff_ne.mpr c17)) <| .no (gF rfl rfl rfl (beq_eq_false_iff_ne.mpr c17)) <| .no (gN rfl rfl rfl) <| .no (gN rfl rfl rfl) <| .no (gN rfl rfl rfl) <| .no (gN rfl rfl rfl) <| .no (gF rfl rfl rfl (beq_eq_false_iff_ne.mpr c17)) <| .op 0 rfl (pkFV rfl (beq_eq_false_iff_ne.mpr c17) rfl) <| .op 0 rfl (asV rfl) <| .nilL _ ⟨cB rfl (mIteF (Bool.eq_false_iff.mpr c1) (mAndT (beq_iff_eq.mpr c13) (mIteT c14 (mIteF (Bool.eq_false_iff.mpr c15) (mAndF (beq_eq_false_iff_ne.mpr c17)))))), trivial⟩)
        · by_cases c19 : a0.Facts.Gen = 0
          · by_cases c20 : (a0.Facts.Rows.length : Int) = 0
            · by_cases c21 : a3 = true
              · by_cases c22 : a4 = true
                · exact (.op 0 rfl (mvV rfl) <| .op 0 rfl (mvV rfl) <| .op 0 (gT rfl rfl rfl (Bool.eq_false_iff.mpr c1)) (faP fa48_1 rfl) <| .op 0 (gT rfl rfl rfl (Bool.eq_false_iff.mpr c1)) (ldP rfl sz3 ag3 rfl) <| .op 0 (gT rfl rfl rfl (Bool.eq_false_iff.mpr c1)) (eqI rfl rfl) <| .op 0 rfl (pkFV rfl (Bool.eq_false_iff.mpr c1) rfl) <| .op 0 rfl (mvV rfl) <| .op 0 (gT rfl rfl rfl (beq_iff_eq.mpr c13)) (mvV rfl) <| .op 0 (gT rfl rfl rfl (beq_iff_eq.mpr c13)) (mvV rfl) <| .op 0 (gT rfl rfl rfl (Bool.eq_false_iff.mpr c14)) (faP fa48_2 rfl) <| .op 0 (gT rfl rfl rfl (Bool.eq_false_iff.mpr c14)) (faP fa44_0 rfl) <| .op 0 (gT rfl rfl rfl (Bool.eq_false_iff.mpr c14)) (ldP rfl sz41 ag41 rfl) <| .op 0 (gT rfl rfl rfl (Bool.eq_false_iff.mpr c14)) (eqI rfl rfl) <| .op 0 (gT rfl rfl rfl (Bool.eq_false_iff.mpr c14)) (mvV rfl) <| .op 0 (gT rfl rfl rfl (beq_iff_eq.mpr c19)) (faP fa48_2 rfl) <| .op 0 (gT rfl rfl rfl (beq_iff_eq.mpr c19)) (faP fa44_1 rfl) <| .op 0 (gT rfl rfl rfl (beq_iff_eq.mpr c19)) (ldP rfl sz42 ag42 rfl) <| .op 0 (gT rfl rfl rfl (beq_iff_eq.mpr c19)) (lnR (l := a0.Facts.Rows) sl42 rfl) <| .op 0 (gT rfl rfl rfl (beq_iff_eq.mpr c19)) (eqI rfl rfl) <| .op 0 (gT rfl rfl rfl (Bool.eq_false_iff.mpr c14)) (pkTV rfl (beq_iff_eq.mpr c19) rfl) <| .op 0 (gT rfl rfl rfl (beq_iff_eq.mpr c13)) (pkFV rfl (Bool.eq_false_iff.mpr c14) rfl) <| .op 0 rfl (pkTV rfl (beq_iff_eq.mpr c13) rfl) <| .op 0 rfl (mvV rfl) <| .op 0 (gT rfl rfl rfl (beq_iff_eq.mpr c20)) (mvV rfl) <| .op 0 (gT rfl rfl rfl (beq_iff_eq.mpr c20)) (mvV rfl) <| .no (gF rfl rfl rfl c21) <| .no (gF rfl rfl rfl c21) <| .no (gF rfl rfl rfl c21) <| .no (gF rfl rfl rfl c21) <| .op 0 (gT rfl rfl rfl (beq_iff_eq.mpr c20)) (pkTV rfl c21 rfl) <| .op 0 rfl (pkTV rfl (beq_iff_eq.mpr c20) rfl) <| .op 0 rfl (mvV rfl) <| .op 0 (gT rfl rfl rfl rfl) (mvV rfl) <| .op 0 (gT rfl rfl rfl rfl) (mvV rfl) <| .no (gF rfl rfl rfl c22) <| .no (gF rfl rfl rfl c22) <| .no (gF rfl rfl rfl c22) <| .no (gF rfl rfl rfl c22) <| .op 0 (gT rfl rfl rfl rfl) (pkTV rfl c22 rfl) <| .op 0 rfl (pkTV rfl rfl rfl) <| .op 0 rfl (asV rfl) <| .nilL _ ⟨cB rfl (mIteF (Bool.eq_false_iff.mpr c1) (mAndT (beq_iff_eq.mpr c13) (mIteF (Bool.eq_false_iff.mpr c14) (mAndT (beq_iff_eq.mpr c19) (mAndT (beq_iff_eq.mpr c20) (mIteT c21 (mOrT c22))))))), trivial⟩)
                · exact (.op 0 rfl (mvV rfl) <| .op 0 rfl (mvV rfl) <| .op 0 (gT rfl rfl rfl (Bool.eq_false_iff.mpr c1)) (faP fa48_1 rfl) <| .op 0 (gT rfl rfl rfl (Bool.eq_false_iff.mpr c1)) (ldP rfl sz3 ag3 rfl) <| .op 0 (gT rfl rfl rfl (Bool.eq_false_iff.mpr c1)) (eqI rfl rfl) <| .op 0 rfl (pkFV rfl (Bool.eq_false_iff.mpr c1) rfl) <| .op 0 rfl (mvV rfl) <| .op 0 (gT rfl rfl rfl (beq_iff_eq.mpr c13)) (mvV rfl) <| .op 0 (gT rfl rfl rfl (beq_iff_eq.mpr c13)) (mvV rfl) <| .op 0 (gT rfl rfl rfl (Bool.eq_false_iff.mpr c14)) (faP fa48_2 rfl) <| .op 0 (gT rfl rfl rfl (Bool.eq_false_iff.mpr c14)) (faP fa44_0 rfl) <| .op 0 (gT rfl rfl rfl (Bool.eq_false_iff.mpr c14)) (ldP rfl sz41 ag41 rfl) <| .op 0 (gT rfl rfl rfl (Bool.eq_false_iff.mpr c14)) (eqI rfl rfl) <| .op 0 (gT rfl rfl rfl (Bool.eq_false_iff.mpr c14)) (mvV rfl) <| .op 0 (gT rfl rfl rfl (beq_iff_eq.mpr c19)) (faP fa48_2 rfl) <| .op 0 (gT rfl rfl rfl (beq_iff_eq.mpr c19)) (faP fa44_1 rfl) <| .op 0 (gT rfl rfl rfl (beq_iff_eq.mpr c19)) (ldP rfl sz42 ag42 rfl) <| .op 0 (gT rfl rfl rfl (beq_iff_eq.mpr c19)) (lnR (l := a0.Facts.Rows) sl42 rfl) <| .op 0 (gT rfl rfl rfl (beq_iff_eq.mpr c19)) (eqI rfl rfl) <| .op 0 (gT rfl rfl rfl (Bool.eq_false_iff.mpr c14)) (pkTV rfl (beq_iff_eq.mpr c19) rfl) <| .op 0 (gT rfl rfl rfl (beq_iff_eq.mpr c13)) (pkFV rfl (Bool.eq_false_iff.mpr c14) rfl) <| .op 0 rfl (pkTV rfl (beq_iff_eq.mpr c13) rfl) <| .op 0 rfl (mvV rfl) <| .op 0 (gT rfl rfl rfl (beq_iff_eq.mpr c20)) (mvV rfl) <| .op 0 (gT rfl rfl rfl (beq_iff_eq.mpr c20)) (mvV rfl) <| .no (gF rfl rfl rfl c21) <| .no (gF rfl rfl rfl c21) <| .no (gF rfl rfl rfl c21) <| .no (gF rfl rfl rfl c21) <| .op 0 (gT rfl rfl rfl (beq_iff_eq.mpr c20)) (pkTV rfl c21 rfl) <| .op 0 rfl (pkTV rfl (beq_iff_eq.mpr c20) rfl) <| .op 0 rfl (mvV rfl) <| .op 0 (gT rfl rfl rfl rfl) (mvV rfl) <| .op 0 (gT rfl rfl rfl rfl) (mvV rfl) <| .op 0 (gT rfl rfl rfl (Bool.eq_false_iff.mpr c22)) (faP fa48_4 rfl) <| .op 0 (gT rfl rfl rfl (Bool.eq_false_iff.mpr c22)) (ldP rfl sz46 ag46 rfl) <| .op 0 (gT rfl rfl rfl (Bool.eq_false_iff.mpr c22)) (lnR (l := a0.Parts) sl46 rfl) <| .op 0 (gT rfl rfl rfl (Bool.eq_false_iff.mpr c22)) (eqI rfl rfl) <| .op 0 (gT rfl rfl rfl rfl) (pkFV rfl (Bool.eq_false_iff.mpr c22) rfl) <| .op 0 rfl (pkTV rfl rfl rfl) <| .op 0 rfl (asV rfl) <| .nilL _ ⟨cB rfl (mIteF (Bool.eq_false_iff.mpr c1) (mAndT (beq_iff_eq.mpr c13) (mIteF (Bool.eq_false_iff.mpr c14) (mAndT (beq_iff_eq.mpr c19) (mAndT (beq_iff_eq.mpr c20) (mIteT c21 (mOrF (Bool.eq_false_iff.mpr c22) rfl))))))), trivial⟩)
              · by_cases c23 : (a0.Cells.length : Int) = 0
                · by_cases c24 : a4 = true
                  · exact (.op 0 rfl (mvV rfl) <| .op 0 rfl (mvV rfl) <| .op 0 (gT rfl rfl rfl (Bool.eq_false_iff.mpr c1)) (faP fa48_1 rfl) <| .op 0 (gT rfl rfl rfl (Bool.eq_false_iff.mpr c1)) (ldP rfl sz3 ag3 rfl) <| .op 0 (gT rfl rfl rfl (Bool.eq_false_iff.mpr c1)) (eqI rfl rfl) <| .op 0 rfl (pkFV rfl (Bool.eq_false_iff.mpr c1) rfl) <| .op 0 rfl (mvV rfl) <| .op 0 (gT rfl rfl rfl (beq_iff_eq.mpr c13)) (mvV rfl) <| .op 0 (gT rfl rfl rfl (beq_iff_eq.mpr c13)) (mvV rfl) <| .op 0 (gT rfl rfl rfl (Bool.eq_false_iff.mpr c14)) (faP fa48_2 rfl) <| .op 0 (gT rfl rfl rfl (Bool.eq_false_iff.mpr c14)) (faP fa44_0 rfl) <| .op 0 (gT rfl rfl rfl (Bool.eq_false_iff.mpr c14)) (ldP rfl sz41 ag41 rfl) <| .op 0 (gT rfl rfl rfl (Bool.eq_false_iff.mpr c14)) (eqI rfl rfl) <| .op 0 (gT rfl rfl rfl (Bool.eq_false_iff.mpr c14)) (mvV rfl) <| .op 0 (gT rfl rfl rfl (beq_iff_eq.mpr c19)) (faP fa48_2 rfl) <| .op 0 (gT rfl rfl rfl (beq_iff_eq.mpr c19)) (faP fa44_1 rfl) <| .op 0 (gT rfl rfl rfl (beq_iff_eq.mpr c19)) (ldP rfl sz42 ag42 rfl) <| .op 0 (gT rfl rfl rfl (beq_iff_eq.mpr c19)) (lnR (l := a0.Facts.Rows) sl42 rfl) <| .op 0 (gT rfl rfl rfl (beq_iff_eq.mpr c19)) (eqI rfl rfl) <| .op 0 (gT rfl rfl rfl (Bool.eq_false_iff.mpr c14)) (pkTV rfl (beq_iff_eq.mpr c19) rfl) <| .op 0 (gT rfl rfl rfl (beq_iff_eq.mpr c13)) (pkFV rfl (Bool.eq_false_iff.mpr c14) rfl) <| .op 0 rfl (pkTV rfl (beq_iff_eq.mpr c13) rfl) <| .op 0 rfl (mvV rfl) <| .op 0 (gT rfl rfl rfl (beq_iff_eq.mpr c20)) (mvV rfl) <| .op 0 (gT rfl rfl rfl (beq_iff_eq.mpr c20)) (mvV rfl) <| .op 0 (gT rfl rfl rfl (Bool.eq_false_iff.mpr c21)) (faP fa48_3 rfl) <| .op 0 (gT rfl rfl rfl (Bool.eq_false_iff.mpr c21)) (ldP rfl sz45 ag45 rfl) <| .op 0 (gT rfl rfl rfl (Bool.eq_false_iff.mpr c21)) (lnR (l := a0.Cells) sl45 rfl) <| .op 0 (gT rfl rfl rfl (Bool.eq_false_iff.mpr c21)) (eqI rfl rfl) <| .op 0 (gT rfl rfl rfl (beq_iff_eq.mpr c20)) (pkFV rfl (Bool.eq_false_iff.mpr c21) rfl) <| .op 0 rfl (pkTV rfl (beq_iff_eq.mpr c20) rfl) <| .op 0 rfl (mvV rfl) <| .op 0 (gT rfl rfl rfl (beq_iff_eq.mpr c23)) (mvV rfl) <| .op 0 (gT rfl rfl rfl (beq_iff_eq.mpr c23)) (mvV rfl) <| .no (gF rfl rfl rfl c24) <| .no (gF rfl rfl rfl c24) <| .no (gF rfl rfl rfl c24) <| .no (gF rfl rfl rfl c24) <| .op 0 (gT rfl rfl rfl (beq_iff_eq.mpr c23)) (pkTV rfl c24 rfl) <| .op 0 rfl (pkTV rfl (beq_iff_eq.mpr c23) rfl) <| .op 0 rfl (asV rfl) <| .nilL _ ⟨cB rfl (mIteF (Bool.eq_false_iff.mpr c1) (mAndT (beq_iff_eq.mpr c13) (mIteF (Bool.eq_false_iff.mpr c14) (mAndT (beq_iff_eq.mpr c19) (mAndT (beq_iff_eq.mpr c20) (mIteF (Bool.eq_false_iff.mpr c21) (mAndT (beq_iff_eq.mpr c23) (mOrT c24)))))))), trivial⟩)
                  · exact (.op 0 rfl (mvV rfl) <| .op 0 rfl (mvV rfl) <| .op 0 (gT rfl rfl rfl (Bool.eq_false_iff.mpr c1)) (faP fa48_1 rfl) <| .op 0 (gT rfl rfl rfl (Bool.eq_false_iff.mpr c1)) (ldP rfl sz3 ag3 rfl) <| .op 0 (gT rfl rfl rfl (Bool.eq_false_iff.mpr c1)) (eqI rfl rfl) <| .op 0 rfl (pkFV rfl (Bool.eq_false_iff.mpr c1) rfl) <| .op 0 rfl (mvV rfl) <| .op 0 (gT rfl rfl rfl (beq_iff_eq.mpr c13)) (mvV rfl) <| .op 0 (gT rfl rfl rfl (beq_iff_eq.mpr c13)) (mvV rfl) <| .op 0 (gT rfl rfl rfl (Bool.eq_false_iff.mpr c14)) (faP fa48_2 rfl) <| .op 0 (gT rfl rfl rfl (Bool.eq_false_iff.mpr c14)) (faP fa44_0 rfl) <| .op 0 (gT rfl rfl rfl (Bool.eq_false_iff.mpr c14)) (ldP rfl sz41 ag41 rfl) <| .op 0 (gT rfl rfl rfl (Bool.eq_false_iff.mpr c14)) (eqI rfl rfl) <| .op 0 (gT rfl rfl rfl (Bool.eq_false_iff.mpr c14)) (mvV rfl) <| .op 0 (gT rfl rfl rfl (beq_iff_eq.mpr c19)) (faP fa48_2 rfl) <| .op 0 (gT rfl rfl rfl (beq_iff_eq.mpr c19)) (faP fa44_1 rfl) <| .op 0 (gT rfl rfl rfl (beq_iff_eq.mpr c19)) (ldP rfl sz42 ag42 rfl) <| .op 0 (gT rfl rfl rfl (beq_iff_eq.mpr c19)) (lnR (l := a0.Facts.Rows) sl42 rfl) <| .op 0 (gT rfl rfl rfl (beq_iff_eq.mpr c19)) (eqI rfl rfl) <| .op 0 (gT rfl rfl rfl (Bool.eq_false_iff.mpr c14)) (pkTV rfl (beq_iff_eq.mpr c19) rfl) <| .op 0 (gT rfl rfl rfl (beq_iff_eq.mpr c13)) (pkFV rfl (Bool.eq_false_iff.mpr c14) rfl) <| .op 0 rfl (pkTV rfl (beq_iff_eq.mpr c13) rfl) <| .op 0 rfl (mvV rfl) <| .op 0 (gT rfl rfl rfl (beq_iff_eq.mpr c20)) (mvV rfl) <| .op 0 (gT rfl rfl rfl (beq_iff_eq.mpr c20)) (mvV rfl) <| .op 0 (gT rfl rfl rfl (Bool.eq_false_iff.mpr c21)) (faP fa48_3 rfl) <| .op 0 (gT rfl rfl rfl (Bool.eq_false_iff.mpr c21)) (ldP rfl sz45 ag45 rfl) <| .op 0 (gT rfl rfl rfl (Bool.eq_false_iff.mpr c21)) (lnR (l := a0.Cells) sl45 rfl) <| .op 0 (gT rfl rfl rfl (Bool.eq_false_iff.mpr c21)) (eqI rfl rfl) <| .op 0 (gT rfl rfl rfl (beq_iff_eq.mpr c20)) (pkFV rfl (Bool.eq_false_iff.mpr c21) rfl) <| .op 0 rfl (pkTV rfl (beq_iff_eq.mpr c20) rfl) <| .op 0 rfl (mvV rfl) <| .op 0 (gT rfl rfl rfl (beq_iff_eq.mpr c23)) (mvV rfl) <| .op 0 (gT rfl rfl rfl (beq_iff_eq.mpr c23)) (mvV rfl) <| .op 0 (gT rfl rfl rfl (Bool.eq_false_iff.mpr c24)) (faP fa48_4 rfl) <| .op 0 (gT rfl rfl rfl (Bool.eq_false_iff.mpr c24)) (ldP rfl sz46 ag46 rfl) <| .op 0 (gT rfl rfl rfl (Bool.eq_false_iff.mpr c24)) (lnR (l := a0.Parts) sl46 rfl) <| .op 0 (gT rfl rfl rfl (Bool.eq_false_iff.mpr c24)) (eqI rfl rfl) <| .op 0 (gT rfl rfl rfl (beq_iff_eq.mpr c23)) (pkFV rfl (Bool.eq_false_iff.mpr c24) rfl) <| .op 0 rfl (pkTV rfl (beq_iff_eq.mpr c23) rfl) <| .op 0 rfl (asV rfl) <| .nilL _ ⟨cB rfl (mIteF (Bool.eq_false_iff.mpr c1) (mAndT (beq_iff_eq.mpr c13) (mIteF (Bool.eq_false_iff.mpr c14) (mAndT (beq_iff_eq.mpr c19) (mAndT (beq_iff_eq.mpr c20) (mIteF (Bool.eq_false_iff.mpr c21) (mAndT (beq_iff_eq.mpr c23) (mOrF (Bool.eq_false_iff.mpr c24) rfl)))))))), trivial⟩)
                · exact (.op 0 rfl (mvV rfl) <| .op 0 rfl (mvV rfl) <| .op 0 (gT rfl rfl rfl (Bool.eq_false_iff.mpr c1)) (faP fa48_1 rfl) <| .op 0 (gT rfl rfl rfl (Bool.eq_false_iff.mpr c1)) (ldP rfl sz3 ag3 rfl) <| .op 0 (gT rfl rfl rfl (Bool.eq_false_iff.mpr c1)) (eqI rfl rfl) <| .op 0 rfl (pkFV rfl (Bool.eq_false_iff.mpr c1) rfl) <| .op 0 rfl (mvV rfl) <| .op 0 (gT rfl rfl rfl (beq_iff_eq.mpr c13)) (mvV rfl) <| .op 0 (gT rfl rfl rfl (beq_iff_eq.mpr c13)) (mvV rfl) <| .op 0 (gT rfl rfl rfl (Bool.eq_false_iff.mpr c14)) (faP fa48_2 rfl) <| .op 0 (gT rfl rfl rfl (Bool.eq_false_iff.mpr c14)) (faP fa44_0 rfl) <| .op 0 (gT rfl rfl rfl (Bool.eq_false_iff.mpr c14)) (ldP rfl sz41 ag41 rfl) <| .op 0 (gT rfl rfl rfl (Bool.eq_false_iff.mpr c14)) (eqI rfl rfl) <| .op 0 (gT rfl rfl rfl (Bool.eq_false_iff.mpr c14)) (mvV rfl) <| .op 0 (gT rfl rfl rfl (beq_iff_eq.mpr c19)) (faP fa48_2 rfl) <| .op 0 (gT rfl rfl rfl (beq_iff_eq.mpr c19)) (faP fa44_1 rfl) <| .op 0 (gT rfl rfl rfl (beq_iff_eq.mpr c19)) (ldP rfl sz42 ag42 rfl) <| .op 0 (gT rfl rfl rfl (beq_iff_eq.mpr c19)) (lnR (l := a0.Facts.Rows) sl42 rfl) <| .op 0 (gT rfl rfl rfl (beq_iff_eq.mpr c19)) (eqI rfl rfl) <| .op 0 (gT rfl rfl rfl (Bool.eq_false_iff.mpr c14)) (pkTV rfl (beq_iff_eq.mpr c19) rfl) <| .op 0 (gT rfl rfl rfl (beq_iff_eq.mpr c13)) (pkFV rfl (Bool.eq_false_iff.mpr c14) rfl) <| .op 0 rfl (pkTV rfl (beq_iff_eq.mpr c13) rfl) <| .op 0 rfl (mvV rfl) <| .op 0 (gT rfl rfl rfl (beq_iff_eq.mpr c20)) (mvV rfl) <| .op 0 (gT rfl rfl rfl (beq_iff_eq.mpr c20)) (mvV rfl) <| .op 0 (gT rfl rfl rfl (Bool.eq_false_iff.mpr c21)) (faP fa48_3 rfl) <| .op 0 (gT rfl rfl rfl (Bool.eq_false_iff.mpr c21)) (ldP rfl sz45 ag45 rfl) <| .op 0 (gT rfl rfl rfl (Bool.eq_false_iff.mpr c21)) (lnR (l := a0.Cells) sl45 rfl) <| .op 0 (gT rfl rfl rfl (Bool.eq_false_iff.mpr c21)) (eqI rfl rfl) <| .op 0 (gT rfl rfl rfl (beq_iff_eq.mpr c20)) (pkFV rfl (Bool.eq_false_iff.mpr c21) rfl) <| .op 0 rfl (pkTV rfl (beq_iff_eq.mpr c20) rfl) <| .op 0 rfl (mvV rfl) <| .no (gF rfl rfl rfl (beq_eq_false_iff_ne.mpr c23)) <| .no (gF rfl rfl rfl (beq_eq_false_iff_ne.mpr c23)) <| .no (gN rfl rfl rfl) <| .no (gN rfl rfl rfl) <| .no (gN rfl rfl rfl) <| .no (gN rfl rfl rfl) <| .no (gF rfl rfl rfl (beq_eq_false_iff_ne.mpr c23)) <| .op 0 rfl (pkFV rfl (beq_eq_false_iff_ne.mpr c23) rfl) <| .op 0 rfl (asV rfl) <| .nilL _ ⟨cB rfl (mIteF (Bool.eq_false_iff.mpr c1) (mAndT (beq_iff_eq.mpr c13) (mIteF (Bool.eq_false_iff.mpr c14) (mAndT (beq_iff_eq.mpr c19) (mAndT (beq_iff_eq.mpr c20) (mIteF (Bool.eq_false_iff.mpr c21) (mAndF (beq_eq_false_iff_ne.mpr c23)))))))), trivial⟩)
            · exact (.op 0 rfl (mvV rfl) <| .op 0 rfl (mvV rfl) <| .op 0 (gT rfl rfl rfl (Bool.eq_false_iff.mpr c1)) (faP fa48_1 rfl) <| .op 0 (gT rfl rfl rfl (Bool.eq_false_iff.mpr c1)) (ldP rfl sz3 ag3 rfl) <| .op 0 (gT rfl rfl rfl (Bool.eq_false_iff.mpr c1)) (eqI rfl rfl) <| .op 0 rfl (pkFV rfl (Bool.eq_false_iff.mpr c1) rfl) <| .op 0 rfl (mvV rfl) <| .op 0 (gT rfl rfl rfl (beq_iff_eq.mpr c13)) (mvV rfl) <| .op 0 (gT rfl rfl rfl (beq_iff_eq.mpr c13)) (mvV rfl) <| .op 0 (gT rfl rfl rfl (Bool.eq_false_iff.mpr c14)) (faP fa48_2 rfl) <| .op 0 (gT rfl rfl rfl (Bool.eq_false_iff.mpr c14)) (faP fa44_0 rfl) <| .op 0 (gT rfl rfl rfl (Bool.eq_false_iff.mpr c14)) (ldP rfl sz41 ag41 rfl) <| .op 0 (gT rfl rfl rfl (Bool.eq_false_iff.mpr c14)) (eqI rfl rfl) <| .op 0 (gT rfl rfl rfl (Bool.eq_false_iff.mpr c14)) (mvV rfl) <| .op 0 (gT rfl rfl rfl (beq_iff_eq.mpr c19)) (faP fa48_2 rfl) <| .op 0 (gT rfl rfl rfl (beq_iff_eq.mpr c19)) (faP fa44_1 rfl) <| .op 0 (gT rfl rfl rfl (beq_iff_eq.mpr c19)) (ldP rfl sz42 ag42 rfl) <| .op 0 (gT rfl rfl rfl (beq_iff_eq.mpr c19)) (lnR (l := a0.Facts.Rows) sl42 rfl) <| .op 0 (gT rfl rfl rfl (beq_iff_eq.mpr c19)) (eqI rfl rfl) <| .op 0 (gT rfl rfl rfl (Bool.eq_false_iff.mpr c14)) (pkTV rfl (beq_iff_eq.mpr c19) rfl) <| .op 0 (gT rfl rfl rfl (beq_iff_eq.mpr c13)) (pkFV rfl (Bool.eq_false_iff.mpr c14) rfl) <| .op 0 rfl (pkTV rfl (beq_iff_eq.mpr c13) rfl) <| .op 0 rfl (mvV rfl) <| .no (gF rfl rfl rfl (beq_eq_false_iff_ne.mpr c20)) <| .no (gF rfl rfl rfl (beq_eq_false_iff_ne.mpr c20)) <| .no (gN rfl rfl rfl) <| .no (gN rfl rfl rfl) <| .no (gN rfl rfl rfl) <| .no (gN rfl rfl rfl) <| .no (gF rfl rfl rfl (beq_eq_false_iff_ne.mpr c20)) <| .op 0 rfl (pkFV rfl (beq_eq_false_iff_ne.mpr c20) rfl) <| .op 0 rfl (mvV rfl) <| .no (gF rfl rfl rfl rfl) <| .no (gF rfl rfl rfl rfl) <| .no (gN rfl rfl rfl) <| .no (gN rfl rfl rfl) <| .no (gN rfl rfl rfl) <| .no (gN rfl rfl rfl) <| .no (gF rfl rfl rfl rfl) <| .op 0 rfl (pkFV rfl rfl rfl) <| .op 0 rfl (asV rfl) <| .nilL _ ⟨cB rfl (mIteF (Bool.eq_false_iff.mpr c1) (mAndT (beq_iff_eq.mpr c13) (mIteF (Bool.eq_false_iff.mpr c14) (mAndT (beq_iff_eq.mpr c19) (mAndF (beq_eq_false_iff_ne.mpr c20)))))), trivial⟩)
          · exact (.op 0 rfl (mvV rfl) <| .op 0 rfl (mvV rfl) <| .op 0 (gT rfl rfl rfl (Bool.eq_false_iff.mpr c1)) (faP fa48_1 rfl) <| .op 0 (gT rfl rfl rfl (Bool.eq_false_iff.mpr c1)) (ldP rfl sz3 ag3 rfl) <| .op 0 (gT rfl rfl rfl (Bool.eq_false_iff.mpr c1)) (eqI rfl rfl) <| .op 0 rfl (pkFV rfl (Bool.eq_false_iff.mpr c1) rfl) <| .op 0 rfl (mvV rfl) <| .op 0 (gT rfl rfl rfl (beq_iff_eq.mpr c13)) (mvV rfl) <| .op 0 (gT rfl rfl rfl (beq_iff_eq.mpr c13)) (mvV rfl) <| .op 0 (gT rfl rfl rfl (Bool.eq_false_iff.mpr c14)) (faP fa48_2 rfl) <| .op 0 (gT rfl rfl rfl (Bool.eq_false_iff.mpr c14)) (faP fa44_0 rfl) <| .op 0 (gT rfl rfl rfl (Bool.eq_false_iff.mpr c14)) (ldP rfl sz41 ag41 rfl) <| .op 0 (gT rfl rfl rfl (Bool.eq_false_iff.mpr c14)) (eqI rfl rfl) <| .op 0 (gT rfl rfl rfl (Bool.eq_false_iff.mpr c14)) (mvV rfl) <| .no (gF rfl rfl rfl (beq_eq_false_iff_ne.mpr c19)) <| .no (gF rfl rfl rfl (beq_eq_false_iff_ne.mpr c19)) <| .no (gF rfl rfl rfl (beq_eq_false_iff_ne.mpr c19)) <| .no (gF rfl rfl rfl (beq_eq_false_iff_ne.mpr c19)) <| .no (gF rfl rfl rfl (beq_eq_false_iff_ne.mpr c19)) <| .op 0 (gT rfl rfl rfl (Bool.eq_false_iff.mpr c14)) (pkFV rfl (beq_eq_false_iff_ne.mpr c19) rfl) <| .op 0 (gT rfl rfl rfl (beq_iff_eq.mpr c13)) (pkFV rfl (Bool.eq_false_iff.mpr c14) rfl) <| .op 0 rfl (pkTV rfl (beq_iff_eq.mpr c13) rfl) <| .op 0 rfl (mvV rfl) <| .no (gF rfl rfl rfl rfl) <| .no (gF rfl rfl rfl rfl) <| .no (gN rfl rfl rfl) <| .no (gN rfl rfl rfl) <| .no (gN rfl rfl rfl) <| .no (gN rfl rfl rfl) <| .no (gF rfl rfl rfl rfl) <| .op 0 rfl (pkFV rfl rfl rfl) <| .op 0 rfl (mvV rfl) <| .no (gF rfl rfl rfl rfl) <| .no (gF rfl rfl rfl rfl) <| .no (gN rfl rfl rfl) <| .no (gN rfl rfl rfl) <| .no (gN rfl rfl rfl) <| .no (gN rfl rfl rfl) <| .no (gF rfl rfl rfl rfl) <| .op 0 rfl (pkFV rfl rfl rfl) <| .op 0 rfl (asV rfl) <| .nilL _ ⟨cB rfl (mIteF (Bool.eq_false_iff.mpr c1) (mAndT (beq_iff_eq.mpr c13) (mIteF (Bool.eq_false_iff.mpr c14) (mAndF (beq_eq_false_iff_ne.mpr c19))))), trivial⟩)
      · exact (.op 0 rfl (mvV rfl) <| .op 0 rfl (mvV rfl) <| .op 0 (gT rfl rfl rfl (Bool.eq_false_iff.mpr c1)) (faP fa48_1 rfl) <| .op 0 (gT rfl rfl rfl (Bool.eq_false_iff.mpr c1)) (ldP rfl sz3 ag3 rfl) <| .op 0 (gT rfl rfl rfl (Bool.eq_false_iff.mpr c1)) (eqI rfl rfl) <| .op 0 rfl (pkFV rfl (Bool.eq_false_iff.mpr c1) rfl) <| .op 0 rfl (mvV rfl) <| .no (gF rfl rfl rfl (beq_eq_false_iff_ne.mpr c13)) <| .no (gF rfl rfl rfl (beq_eq_false_iff_ne.mpr c13)) <| .no (gN rfl rfl rfl) <| .no (gN rfl rfl rfl) <| .no (gN rfl rfl rfl) <| .no (gN rfl rfl rfl) <| .no (gN rfl rfl rfl) <| .no (gN rfl rfl rfl) <| .no (gN rfl rfl rfl) <| .no (gN rfl rfl rfl) <| .no (gN rfl rfl rfl) <| .no (gN rfl rfl rfl) <| .no (gN rfl rfl rfl) <| .no (gF rfl rfl rfl (beq_eq_false_iff_ne.mpr c13)) <| .op 0 rfl (pkFV rfl (beq_eq_false_iff_ne.mpr c13) rfl) <| .op 0 rfl (mvV rfl) <| .no (gF rfl rfl rfl rfl) <| .no (gF rfl rfl rfl rfl) <| .no (gN rfl rfl rfl) <| .no (gN rfl rfl rfl) <| .no (gN rfl rfl rfl) <| .no (gN rfl rfl rfl) <| .no (gF rfl rfl rfl rfl) <| .op 0 rfl (pkFV rfl rfl rfl) <| .op 0 rfl (mvV rfl) <| .no (gF rfl rfl rfl rfl) <| .no (gF rfl rfl rfl rfl) <| .no (gN rfl rfl rfl) <| .no (gN rfl rfl rfl) <| .no (gN rfl rfl rfl) <| .no (gN rfl rfl rfl) <| .no (gF rfl rfl rfl rfl) <| .op 0 rfl (pkFV rfl rfl rfl) <| .op 0 rfl (asV rfl) <| .nilL _ ⟨cB rfl (mIteF (Bool.eq_false_iff.mpr c1) (mAndF (beq_eq_false_iff_ne.mpr c13))), trivial⟩)
  replace h := h.symm
  subst h
  refine .keepL [] [(10, .val (.bool (bif a1 then (bif a2 then (bif a3 then (a4 || ((a0.Parts.length : Int) == 0)) else (((a0.Cells.length : Int) == 0) && (a4 || ((a0.Parts.length : Int) == 0)))) else ((a0.Facts.Gen == 0) && (((a0.Facts.Rows.length : Int) == 0) && (bif a3 then (a4 || ((a0.Parts.length : Int) == 0)) else (((a0.Cells.length : Int) == 0) && (a4 || ((a0.Parts.length : Int) == 0))))))) else ((a0.Cost == 0) && (bif a2 then (bif a3 then (a4 || ((a0.Parts.length : Int) == 0)) else (((a0.Cells.length : Int) == 0) && (a4 || ((a0.Parts.length : Int) == 0)))) else ((a0.Facts.Gen == 0) && (((a0.Facts.Rows.length : Int) == 0) && (bif a3 then (a4 || ((a0.Parts.length : Int) == 0)) else (((a0.Cells.length : Int) == 0) && (a4 || ((a0.Parts.length : Int) == 0)))))))))))] [] (by decide) (by decide) ⟨.free rfl rfl, trivial⟩ trivial ?_
  exact .ret rfl
def r03_dim.f (a0 : Int) (r : Bool) : Prop :=
  r = ((decide (a0 ≥ 0)) && (decide (a0 ≤ 64)))
theorem r03_dim.D {a0 : Int} {r : Bool} (h : r03_dim.f a0 r) : D Try.prog X (.callH 77 [.val (.int .i64 a0)] [] (.val (.bool r)) []) := by
  unfold r03_dim.f at h
  refine .enter 9 0 fn77 rfl rfl rfl ?_
  refine .seq ?_
  refine .reg0 rfl (.op 0 rfl (asV rfl) <| .nil0) ?_
  refine .seq ?_
  refine .reg0 (e1 := listEnv [(2, .val (.bool ((decide (a0 ≥ 0)) && (decide (a0 ≤ 64)))))]) (H1 := []) rfl ?_ ?_
  · by_cases c1 : a0 ≥ 0
    · exact (.op 0 rfl (mvV rfl) <| .op 0 rfl (geI rfl rfl) <| .op 0 rfl (mvV rfl) <| .op 0 (gT rfl rfl rfl (decide_eq_true c1)) (mvV rfl) <| .op 0 (gT rfl rfl rfl (decide_eq_true c1)) (leI rfl rfl) <| .op 0 rfl (pkTV rfl (decide_eq_true c1) rfl) <| .op 0 rfl (asV rfl) <| .nilL _ ⟨cB rfl (mAndT (decide_eq_true c1) rfl), trivial⟩)
    · exact (.op 0 rfl (mvV rfl) <| .op 0 rfl (geI rfl rfl) <| .op 0 rfl (mvV rfl) <| .no (gF rfl rfl rfl (decide_eq_false c1)) <| .no (gF rfl rfl rfl (decide_eq_false c1)) <| .op 0 rfl (pkFV rfl (decide_eq_false c1) rfl) <| .op 0 rfl (asV rfl) <| .nilL _ ⟨cB rfl (mAndF (decide_eq_false c1)), trivial⟩)
  replace h := h.symm
  subst h
  refine .keepL [] [(2, .val (.bool ((decide (a0 ≥ 0)) && (decide (a0 ≤ 64)))))] [] (by decide) (by decide) ⟨.free rfl rfl, trivial⟩ trivial ?_
  exact .ret rfl
def r01_Worth.b1 : (Int × Int) → Rnd ((Int × Int)) Int Int → Prop := fun (x1, x2) z1 => if x1 > 0 then (z1 = .next ((IntKind.i64.wrap (x1 - 1)), (IntKind.u64.wrap (x2 * 2)))) else (z1 = .exit x2)
def r01_Worth.f (a0 : Int) (r : Int) : Prop :=
  ∃ o1 : Fin Int Int, Loop (r01_Worth.b1) (a0, 1) o1 ∧ o1.on (fun x3 => r = x3) (fun r_ => r = r_)
theorem r01_Worth.D {a0 : Int} {r : Int} (h : r01_Worth.f a0 r) : D Try.prog X (.callH 59 [.val (.int .i64 a0)] [] (.val (.int .u64 r)) []) := by
  unfold r01_Worth.f at h
  refine .enter 11 0 fn59 rfl rfl rfl ?_
  refine .seq ?_
  refine .reg0 rfl (.op 0 rfl (asV rfl) <| .nil0) ?_
  refine .seq ?_
  refine .reg0 rfl (.op 0 rfl (asV rfl) <| .nil0) ?_
  refine .seq ?_
  refine .block ?_
  refine .keepL [] [(0, .val (.int .i64 a0)), (3, .val (.int .u64 1))] [] (by decide) (by decide) ⟨.free rfl rfl, .free rfl rfl, trivial⟩ trivial ?_
  obtain ⟨o1, hL1, h⟩ := h
  refine .loopB (r01_Worth.b1) (fun (x1, x2) => listEnv [(0, .val (.int .i64 x1)), (3, .val (.int .u64 x2))]) (fun (x1, x2) => []) (fun x3 => listEnv [(3, .val (.int .u64 x3))]) (fun x3 => []) hL1 (fun r_ => r = r_) ?_ ?_ ?_
  · rintro x3 rfl
    try dsimp only [Fin.on] at h
    refine .seq ?_
    refine .reg0 rfl (.op 0 rfl (mvV rfl) <| .op 0 rfl (asV rfl) <| .nil0) ?_
    replace h := h.symm
    subst h
    refine .keepL [] [(2, .val (.int .u64 x3))] [] (by decide) (by decide) ⟨.free rfl rfl, trivial⟩ trivial ?_
    exact .ret rfl
  · rintro r_ rfl
    exact h
  · rintro ⟨x1, x2⟩ z1 h hn1 hx1 hr1
    dsimp only [r01_Worth.b1] at h
    refine .seq ?_
    refine .seq ?_
    refine .reg0 rfl (.op 0 rfl (mvV rfl) <| .op 0 rfl (gtI rfl rfl) <| .nil0) ?_
    by_cases c3 : x1 > 0
    · rw [if_pos c3] at h
      refine .condT rfl (decide_eq_true c3) ?_
      refine .skip ?_
      refine .seq ?_
      refine .block ?_
      refine .reg0 rfl (.op 0 rfl (mvV rfl) <| .op 0 rfl (mulI rfl rfl) <| .op 0 rfl (asV rfl) <| .nil0) ?_
      refine .inBlock ?_
      refine .reg0 rfl (.op 0 rfl (mvV rfl) <| .op 0 rfl (subI rfl rfl) <| .op 0 rfl (asV rfl) <| .nil0) ?_
      refine .keepL [] [(0, .val (.int .i64 (IntKind.i64.wrap (x1 - 1)))), (3, .val (.int .u64 (IntKind.u64.wrap (x2 * 2))))] [] (by decide) (by decide) ⟨.free rfl rfl, .free rfl rfl, trivial⟩ trivial ?_
      exact hn1 _ h
    · rw [if_neg c3] at h
      refine .condF rfl (decide_eq_false c3) ?_
      refine .exit rfl ?_
      refine .keepL [] [(3, .val (.int .u64 x2))] [] (by decide) (by decide) ⟨.free rfl rfl, trivial⟩ trivial ?_
      exact hx1 _ h
def r01_Full.b1 (a0 : Int) : (Int × Int) → Rnd ((Int × Int)) Int (Int × Int) → Prop := fun (x1, x2) z1 => if x2 < a0 then (∃ t13_2 : Int, (r01_Worth.f x2 t13_2) ∧ z1 = .next ((IntKind.u64.wrap (x1 + t13_2)), (IntKind.i64.wrap (x2 + 1)))) else (z1 = .exit x1)
def r01_Full.f (a0 : Int) (r : Int × Int) : Prop :=
  if ((decide (a0 < 0)) || (decide (a0 > 64))) = true then (r = (0, 10)) else (∃ o1 : Fin Int (Int × Int), Loop (r01_Full.b1 a0) (0, 0) o1 ∧ o1.on (fun x3 => r = (x3, 0)) (fun r_ => r = r_))
theorem r01_Full.D {a0 : Int} {r : Int × Int} (h : r01_Full.f a0 r) : D Try.prog X (.callH 95 [.val (.int .i64 a0)] [] (.tuple [.val (.int .u64 r.1), .val (.int .i64 r.2)]) []) := by
  unfold r01_Full.f at h
  refine .enter 22 0 fn95 rfl rfl rfl ?_
  refine .seq ?_
  refine .reg0 rfl (.op 0 rfl (asV rfl) <| .op 0 rfl (asV rfl) <| .nil0) ?_
  refine .seq ?_
  refine .seq ?_
  refine .reg0 (e1 := listEnv [(0, .val (.int .i64 a0)), (11, .val (.bool ((decide (a0 < 0)) || (decide (a0 > 64)))))]) (H1 := []) rfl ?_ ?_
  · by_cases c1 : a0 < 0
    · exact (.op 0 rfl (mvV rfl) <| .op 0 rfl (ltI rfl rfl) <| .op 0 rfl (mvV rfl) <| .no (gF rfl rfl rfl (decide_eq_true c1)) <| .no (gF rfl rfl rfl (decide_eq_true c1)) <| .op 0 rfl (pkTV rfl (decide_eq_true c1) rfl) <| .nilL _ ⟨.free rfl rfl, cB rfl (mOrT (decide_eq_true c1)), trivial⟩)
    · exact (.op 0 rfl (mvV rfl) <| .op 0 rfl (ltI rfl rfl) <| .op 0 rfl (mvV rfl) <| .op 0 (gT rfl rfl rfl (decide_eq_false c1)) (mvV rfl) <| .op 0 (gT rfl rfl rfl (decide_eq_false c1)) (gtI rfl rfl) <| .op 0 rfl (pkFV rfl (decide_eq_false c1) rfl) <| .nilL _ ⟨.free rfl rfl, cB rfl (mOrF (decide_eq_false c1) rfl), trivial⟩)
  by_cases c2 : ((decide (a0 < 0)) || (decide (a0 > 64))) = true
  · rw [if_pos c2] at h
    refine .condT rfl c2 ?_
    refine .seq ?_
    refine .reg0 rfl (.op 0 rfl (asV rfl) <| .op 0 rfl (asV rfl) <| .nil0) ?_
    replace h := h.symm
    subst h
    refine .keepL [] [(2, .val (.int .u64 0)), (3, .val (.int .i64 10))] [] (by decide) (by decide) ⟨.free rfl rfl, .free rfl rfl, trivial⟩ trivial ?_
    exact .ret rfl
  · rw [if_neg c2] at h
    refine .condF rfl (Bool.eq_false_iff.mpr c2) ?_
    refine .skip ?_
    refine .seq ?_
    refine .reg0 rfl (.op 0 rfl (asV rfl) <| .nil0) ?_
    refine .seq ?_
    refine .seq ?_
    refine .reg0 rfl (.op 0 rfl (asV rfl) <| .nil0) ?_
    refine .block ?_
    refine .keepL [] [(0, .val (.int .i64 a0)), (4, .val (.int .u64 0)), (5, .val (.int .i64 0))] [] (by decide) (by decide) ⟨.free rfl rfl, .free rfl rfl, .free rfl rfl, trivial⟩ trivial ?_
    obtain ⟨o1, hL1, h⟩ := h
    refine .loopB (r01_Full.b1 a0) (fun (x1, x2) => listEnv [(0, .val (.int .i64 a0)), (4, .val (.int .u64 x1)), (5, .val (.int .i64 x2))]) (fun (x1, x2) => []) (fun x3 => listEnv [(4, .val (.int .u64 x3))]) (fun x3 => []) hL1 (fun r_ => r = r_) ?_ ?_ ?_
    · rintro x3 rfl
      try dsimp only [Fin.on] at h
      refine .seq ?_
      refine .reg0 rfl (.op 0 rfl (mvV rfl) <| .op 0 rfl (asV rfl) <| .op 0 rfl (asV rfl) <| .nil0) ?_
      replace h := h.symm
      subst h
      refine .keepL [] [(2, .val (.int .u64 x3)), (3, .val (.int .i64 0))] [] (by decide) (by decide) ⟨.free rfl rfl, .free rfl rfl, trivial⟩ trivial ?_
      exact .ret rfl
    · rintro r_ rfl
      exact h
    · rintro ⟨x1, x2⟩ z1 h hn1 hx1 hr1
      dsimp only [r01_Full.b1] at h
      refine .seq ?_
      refine .seq ?_
      refine .reg0 rfl (.op 0 rfl (mvV rfl) <| .op 0 rfl (mvV rfl) <| .op 0 rfl (ltI rfl rfl) <| .nil0) ?_
      by_cases c5 : x2 < a0
      · rw [if_pos c5] at h
        refine .condT rfl (decide_eq_true c5) ?_
        refine .skip ?_
        refine .seq ?_
        refine .block ?_
        obtain ⟨t13_2, g13_2, h⟩ := h
        refine .reg0 rfl (.op 0 rfl (mvV rfl) <| .op 0 rfl (mvV rfl) <| .callI rfl (callee_of rfl go59 rfl) (.pure rfl rfl (r01_Worth.D g13_2)) <| .op 0 rfl (addI rfl rfl) <| .op 0 rfl (asV rfl) <| .nil0) ?_
        refine .inBlock ?_
        refine .reg0 rfl (.op 0 rfl (mvV rfl) <| .op 0 rfl (addI rfl rfl) <| .op 0 rfl (asV rfl) <| .nil0) ?_
        refine .keepL [] [(0, .val (.int .i64 a0)), (4, .val (.int .u64 (IntKind.u64.wrap (x1 + t13_2)))), (5, .val (.int .i64 (IntKind.i64.wrap (x2 + 1))))] [] (by decide) (by decide) ⟨.free rfl rfl, .free rfl rfl, .free rfl rfl, trivial⟩ trivial ?_
        exact hn1 _ h
      · rw [if_neg c5] at h
        refine .condF rfl (decide_eq_false c5) ?_
        refine .exit rfl ?_
        refine .keepL [] [(4, .val (.int .u64 x1))] [] (by decide) (by decide) ⟨.free rfl rfl, trivial⟩ trivial ?_
        exact hx1 _ h
def r03_Inside.f (a0 : Int) (a1 : Int) (r : Bool) : Prop :=
  ∃ t2_1 : Int × Int, (r01_Full.f a0 t2_1) ∧ r = ((bitOp .andNot .u64 a1 t2_1.1) == 0)
theorem r03_Inside.D {a0 : Int} {a1 : Int} {r : Bool} (h : r03_Inside.f a0 a1 r) : D Try.prog X (.callH 87 [.val (.int .i64 a0), .val (.int .u64 a1)] [] (.val (.bool r)) []) := by
  unfold r03_Inside.f at h
  refine .enter 16 0 fn87 rfl rfl rfl ?_
  refine .seq ?_
  refine .reg0 rfl (.op 0 rfl (asV rfl) <| .nil0) ?_
  refine .seq ?_
  obtain ⟨t2_1, g2_1, h⟩ := h
  refine .reg0 rfl (.op 0 rfl (mvV rfl) <| .callI rfl (callee_of rfl go95 rfl) (.pure rfl rfl (r01_Full.D g2_1)) <| .op 0 rfl (mvT rfl) <| .op 0 rfl (exT rfl rfl) <| .op 0 rfl (exT rfl rfl) <| .op 0 rfl (asV rfl) <| .op 0 rfl (asV rfl) <| .nil0) ?_
  refine .seq ?_
  refine .reg0 rfl (.op 0 rfl (mvV rfl) <| .op 0 rfl (mvV rfl) <| .op 0 rfl (andNotI rfl rfl) <| .op 0 rfl (eqI rfl rfl) <| .op 0 rfl (asV rfl) <| .nil0) ?_
  replace h := h.symm
  subst h
  refine .keepL [] [(4, .val (.bool ((bitOp .andNot .u64 a1 t2_1.1) == 0)))] [] (by decide) (by decide) ⟨.free rfl rfl, trivial⟩ trivial ?_
  exact .ret rfl
def r03_shape.b1 (a0 : Int) (a1 : TFacts) : Int → Rnd Int Unit Bool → Prop := fun x1 z1 => if x1 < a0 then (((InR x1 a1.Rows.length)) ∧ ∃ t14_6 : Bool, (r03_Inside.f a0 (rdl a1.Rows x1) t14_6) ∧ if t14_6 = true then (z1 = .next (IntKind.i64.wrap (x1 + 1))) else (z1 = .ret false)) else (z1 = .exit ())
def r03_shape.f (a0 : Int) (a1 : TFacts) (r : Bool) : Prop :=
  ∃ t2_9 : Bool, (((a1.Rows.length : Int) = a0) → r03_Inside.f a0 a1.Gen t2_9) ∧ if ((!((a1.Rows.length : Int) == a0)) || (!t2_9)) = true then (r = false) else (∃ o1 : Fin Unit Bool, Loop (r03_shape.b1 a0 a1) 0 o1 ∧ o1.on (fun _ => r = true) (fun r_ => r = r_))
theorem r03_shape.D {a0 : Int} {a1 : TFacts} {r : Bool} (h : r03_shape.f a0 a1 r) : D Try.prog X (.callH 86 [.val (.int .i64 a0), .agg (TFacts.lit a1)] [] (.val (.bool r)) []) := by
  unfold r03_shape.f at h
  refine .enter 31 0 fn86 rfl rfl rfl ?_
  refine .seq ?_
  refine .room 0 ?_
  refine .reg0 rfl (.op 0 rfl (bxP (s := 2) (cs := (TFacts.lit a1)) rfl ⟨rfl, by decide, rfl⟩ rfl) <| .op 0 rfl (asV rfl) <| .nil0) ?_
  refine .seq ?_
  refine .seq ?_
  obtain ⟨t2_9, g2_9, h⟩ := h
  refine .reg0 (e1 := listEnv [(0, .val (.int .i64 a0)), (3, .ptr 0 1 2 0 0), (17, .val (.bool ((!((a1.Rows.length : Int) == a0)) || (!t2_9))))]) (H1 := [⟨2, [(TFacts.lit a1)], 0, none⟩]) rfl ?_ ?_
  · by_cases c1 : (a1.Rows.length : Int) = a0
    · exact (.op 0 rfl (faP fa44_1 rfl) <| .op 0 rfl (ldP rfl sz42 ag42 rfl) <| .op 0 rfl (lnR (l := a1.Rows) sl42 rfl) <| .op 0 rfl (mvV rfl) <| .op 0 rfl (neI rfl rfl) <| .op 0 rfl (mvV rfl) <| .op 0 (gT rfl rfl rfl (bne_eq_false_iff_eq.mpr c1)) (mvV rfl) <| .op 0 (gT rfl rfl rfl (bne_eq_false_iff_eq.mpr c1)) (faP fa44_0 rfl) <| .op 0 (gT rfl rfl rfl (bne_eq_false_iff_eq.mpr c1)) (ldP rfl sz41 ag41 rfl) <| .callI (gT rfl rfl rfl (bne_eq_false_iff_eq.mpr c1)) (callee_of rfl go87 rfl) (.pure rfl rfl (r03_Inside.D (g2_9 c1))) <| .op 0 (gT rfl rfl rfl (bne_eq_false_iff_eq.mpr c1)) (notB rfl) <| .op 0 rfl (pkFV rfl (bne_eq_false_iff_eq.mpr c1) rfl) <| .nilL _ ⟨.free rfl rfl, .ptr rfl, cB rfl (mOrF (bnotF (beq_iff_eq.mpr c1)) rfl), trivial⟩)
    · exact (.op 0 rfl (faP fa44_1 rfl) <| .op 0 rfl (ldP rfl sz42 ag42 rfl) <| .op 0 rfl (lnR (l := a1.Rows) sl42 rfl) <| .op 0 rfl (mvV rfl) <| .op 0 rfl (neI rfl rfl) <| .op 0 rfl (mvV rfl) <| .no (gF rfl rfl rfl (bne_iff_ne.mpr c1)) <| .no (gF rfl rfl rfl (bne_iff_ne.mpr c1)) <| .no (gF rfl rfl rfl (bne_iff_ne.mpr c1)) <| .no (gF rfl rfl rfl (bne_iff_ne.mpr c1)) <| .no (gF rfl rfl rfl (bne_iff_ne.mpr c1)) <| .op 0 rfl (pkTV rfl (bne_iff_ne.mpr c1) rfl) <| .nilL _ ⟨.free rfl rfl, .ptr rfl, cB rfl (mOrT (bnotT (beq_eq_false_iff_ne.mpr c1))), trivial⟩)
  by_cases c2 : ((!((a1.Rows.length : Int) == a0)) || (!t2_9)) = true
  · rw [if_pos c2] at h
    refine .condT rfl c2 ?_
    refine .seq ?_
    refine .reg0 rfl (.op 0 rfl (asV rfl) <| .nil0) ?_
    replace h := h.symm
    subst h
    refine .keepL [] [(4, .val (.bool false))] [] (by decide) (by decide) ⟨.free rfl rfl, trivial⟩ trivial ?_
    exact .ret rfl
  · rw [if_neg c2] at h
    refine .condF rfl (Bool.eq_false_iff.mpr c2) ?_
    refine .skip ?_
    refine .seq ?_
    refine .seq ?_
    refine .reg0 rfl (.op 0 rfl (asV rfl) <| .nil0) ?_
    refine .block ?_
    refine .keepL [0] [(0, .val (.int .i64 a0)), (3, .ptr 0 1 2 0 0), (5, .val (.int .i64 0))] [⟨2, [(TFacts.lit a1)], 0, none⟩] (by decide) (by decide) ⟨.free rfl rfl, .ptr rfl, .free rfl rfl, trivial⟩ ⟨⟨_, rfl, bcBox (all2_free rfl)⟩, trivial⟩ ?_
    obtain ⟨o1, hL1, h⟩ := h
    refine .loopB (r03_shape.b1 a0 a1) (fun x1 => listEnv [(0, .val (.int .i64 a0)), (3, .ptr 0 1 2 0 0), (5, .val (.int .i64 x1))]) (fun x1 => [⟨2, [(TFacts.lit a1)], 0, none⟩]) (fun _ => listEnv []) (fun _ => []) hL1 (fun r_ => r = r_) ?_ ?_ ?_
    · rintro ⟨⟩ rfl
      try dsimp only [Fin.on] at h
      refine .seq ?_
      refine .reg0 rfl (.op 0 rfl (asV rfl) <| .nil0) ?_
      replace h := h.symm
      subst h
      refine .keepL [] [(4, .val (.bool true))] [] (by decide) (by decide) ⟨.free rfl rfl, trivial⟩ trivial ?_
      exact .ret rfl
    · rintro r_ rfl
      exact h
    · rintro x1 z1 h hn1 hx1 hr1
      dsimp only [r03_shape.b1] at h
      refine .seq ?_
      refine .seq ?_
      refine .reg0 rfl (.op 0 rfl (mvV rfl) <| .op 0 rfl (mvV rfl) <| .op 0 rfl (ltI rfl rfl) <| .nil0) ?_
      by_cases c7 : x1 < a0
      · rw [if_pos c7] at h
        refine .condT rfl (decide_eq_true c7) ?_
        refine .skip ?_
        refine .seq ?_
        refine .block ?_
        refine .seq ?_
        obtain ⟨g14_4, h⟩ := h
        obtain ⟨t14_6, g14_6, h⟩ := h
        refine .reg0 rfl (.op 0 rfl (mvV rfl) <| .op 0 rfl (faP fa44_1 rfl) <| .op 0 rfl (ldP rfl sz42 ag42 rfl) <| .op 0 rfl (mvV rfl) <| .op 0 rfl (ixR (l := a1.Rows) (lit := (cInt .u64)) sl42 rfl rfl (fun _ => rfl) g14_4.1 g14_4.2) <| .op 0 rfl (ldC rfl sz41 ag41 rfl) <| .callI rfl (callee_of rfl go87 rfl) (.pure rfl rfl (r03_Inside.D g14_6)) <| .op 0 rfl (notB rfl) <| .nil0) ?_
        by_cases c8 : t14_6 = true
        · rw [if_pos c8] at h
          refine .condF rfl (bnotF c8) ?_
          refine .skip ?_
          refine .inBlock ?_
          refine .reg0 rfl (.op 0 rfl (mvV rfl) <| .op 0 rfl (addI rfl rfl) <| .op 0 rfl (asV rfl) <| .nil0) ?_
          refine .keepL [0] [(0, .val (.int .i64 a0)), (3, .ptr 0 1 2 0 0), (5, .val (.int .i64 (IntKind.i64.wrap (x1 + 1))))] [⟨2, [(TFacts.lit a1)], 0, none⟩] (by decide) (by decide) ⟨.free rfl rfl, .ptr rfl, .free rfl rfl, trivial⟩ ⟨⟨_, rfl, bcBox (all2_free rfl)⟩, trivial⟩ ?_
          exact hn1 _ h
        · rw [if_neg c8] at h
          refine .condT rfl (bnotT (Bool.eq_false_iff.mpr c8)) ?_
          refine .seq ?_
          refine .reg0 rfl (.op 0 rfl (asV rfl) <| .nil0) ?_
          have q3 := hr1 _ h
          replace q3 := q3.symm
          subst q3
          refine .keepL [] [(4, .val (.bool false))] [] (by decide) (by decide) ⟨.free rfl rfl, trivial⟩ trivial ?_
          exact .ret rfl
      · rw [if_neg c7] at h
        refine .condF rfl (decide_eq_false c7) ?_
        refine .exit rfl ?_
        refine .keepL [] [] [] (by decide) (by decide) trivial trivial ?_
        exact hx1 _ h
def r03_canon.b1 (a0 : TFacts) : ((List Int) × Int) → Rnd (((List Int) × Int)) ((List Int)) TFacts → Prop := fun (x2, x3) z1 => if x3 < (a0.Rows.length : Int) then (((InR x3 a0.Rows.length)) ∧ ((Fits (x2.length + 1) 8)) ∧ z1 = .next ((x2 ++ [(bitOp .andNot .u64 (rdl a0.Rows x3) a0.Gen)]), (IntKind.i64.wrap (x3 + 1)))) else (z1 = .exit x2)
def r03_canon.f (a0 : TFacts) (r : TFacts) : Prop :=
  ∃ o1 : Fin ((List Int)) TFacts, Loop (r03_canon.b1 a0) ([], 0) o1 ∧ o1.on (fun x4 => r = (TFacts.mk a0.Gen x4)) (fun r_ => r = r_)
theorem r03_canon.D {a0 : TFacts} {r : TFacts} (h : r03_canon.f a0 r) : D Try.prog X (.callH 74 [.agg (TFacts.lit a0)] [] (.agg (TFacts.lit r)) []) := by
  unfold r03_canon.f at h
  refine .enter 29 0 fn74 rfl rfl rfl ?_
  refine .seq ?_
  refine .room 0 ?_
  refine .room 0 ?_
  refine .reg0 rfl (.op 0 rfl (bxP (s := 2) (cs := (TFacts.lit a0)) rfl ⟨rfl, by decide, rfl⟩ rfl) <| .op 1 rfl (alP (s := 2) ze44 ⟨rfl, by decide, rfl⟩ rfl) <| .nil0) ?_
  refine .seq ?_
  refine .room 0 ?_
  refine .reg0 rfl (.op 0 rfl (faP fa44_0 rfl) <| .op 0 rfl (ldP rfl sz41 ag41 rfl) <| .op 0 rfl (bldS (cs := [.val (.int .u64 a0.Gen), .val (.slice none 0 0)]) ze44 pl44 rfl rfl) <| .op 2 rfl (alP (s := 2) ze44 ⟨rfl, by decide, rfl⟩ rfl) <| .op 0 rfl (stB (cs0 := [.val (.int .u64 0), .val (.slice none 0 0)]) (cs := [.val (.int .u64 a0.Gen), .val (.slice none 0 0)]) (cs1 := [.val (.int .u64 a0.Gen), .val (.slice none 0 0)]) rfl rfl sz44 rfl ⟨Nat.le_of_ble_eq_true rfl, rfl⟩ rfl) <| .nil0) ?_
  refine .seq ?_
  refine .seq ?_
  refine .reg0 rfl (.op 0 rfl (asV rfl) <| .nil0) ?_
  refine .block ?_
  refine .room 1 ?_
  refine .keepL [0, 1, 2, 3] [(1, .ptr 0 1 2 0 0), (2, .ptr 1 1 2 0 0), (3, .ptr 2 1 2 0 0), (4, .val (.int .i64 0))] [⟨2, [(TFacts.lit a0)], 0, none⟩, ⟨2, [[.val (.int .u64 0), .val (.slice none 0 0)]], 0, none⟩, ⟨2, [[.val (.int .u64 a0.Gen), .own 3 0]], 0, none⟩, ⟨1, [].map (cInt .u64), 0, none⟩] (by decide) (by decide) ⟨.ptr rfl, .ptr rfl, .ptr rfl, .free rfl rfl, trivial⟩ ⟨⟨_, rfl, bcBox (all2_free rfl)⟩, ⟨_, rfl, bcBox (all2_free rfl)⟩, ⟨_, rfl, bcBox (.cons (.free rfl rfl) <| .cons (.nilOwn) <| .nil)⟩, ⟨_, rfl, (bcRow (l := []) sl42 (Nat.le_refl _) rfl)⟩, trivial⟩ ?_
  obtain ⟨o1, hL1, h⟩ := h
  refine .loopB (r03_canon.b1 a0) (fun (x2, x3) => listEnv [(1, .ptr 0 1 2 0 0), (2, .ptr 1 1 2 0 0), (3, .ptr 2 1 2 0 0), (4, .val (.int .i64 x3))]) (fun (x2, x3) => [⟨2, [(TFacts.lit a0)], 0, none⟩, ⟨2, [[.val (.int .u64 0), .val (.slice none 0 0)]], 0, none⟩, ⟨2, [[.val (.int .u64 a0.Gen), .own 3 x2.length]], 0, none⟩, ⟨1, x2.map (cInt .u64), 0, none⟩]) (fun x4 => listEnv [(2, .ptr 0 1 2 0 0), (3, .ptr 1 1 2 0 0)]) (fun x4 => [⟨2, [[.val (.int .u64 0), .val (.slice none 0 0)]], 0, none⟩, ⟨2, [[.val (.int .u64 a0.Gen), .own 2 x4.length]], 0, none⟩, ⟨1, x4.map (cInt .u64), 0, none⟩]) hL1 (fun r_ => r = r_) ?_ ?_ ?_
  · rintro x4 rfl
    try dsimp only [Fin.on] at h
    refine .seq ?_
    refine .reg0 rfl (.op 0 rfl (ldG rfl sz44 ag44 rfl) <| .op 0 rfl (stB (cs0 := [.val (.int .u64 0), .val (.slice none 0 0)]) (cs := [.val (.int .u64 a0.Gen), .own 2 x4.length]) (cs1 := [.val (.int .u64 a0.Gen), .own 2 x4.length]) rfl rfl sz44 rfl ⟨Nat.le_of_ble_eq_true rfl, rfl⟩ rfl) <| .nil0) ?_
    replace h := h.symm
    subst h
    refine .keepL [] [(2, .cptr [.val (.int .u64 a0.Gen), .rows (x4.map (cInt .u64))] 0)] [] (by decide) (by decide) ⟨cFixP rfl rfl (.cons (.free rfl rfl) <| .cons (cFixO (l := x4) sl42 rfl rfl rfl rfl) <| .nil), trivial⟩ trivial ?_
    exact .ret rfl
  · rintro r_ rfl
    exact h
  · rintro ⟨x2, x3⟩ z1 h hn1 hx1 hr1
    dsimp only [r03_canon.b1] at h
    refine .seq ?_
    refine .seq ?_
    refine .reg0 rfl (.op 0 rfl (mvV rfl) <| .op 0 rfl (faP fa44_1 rfl) <| .op 0 rfl (ldP rfl sz42 ag42 rfl) <| .op 0 rfl (lnR (l := a0.Rows) sl42 rfl) <| .op 0 rfl (ltI rfl rfl) <| .nil0) ?_
    by_cases c3 : x3 < (a0.Rows.length : Int)
    · rw [if_pos c3] at h
      refine .condT rfl (decide_eq_true c3) ?_
      refine .skip ?_
      refine .seq ?_
      refine .block ?_
      obtain ⟨g11_5, h⟩ := h
      obtain ⟨g11_11, h⟩ := h
      refine .room 0 ?_
      refine .room 0 ?_
      refine .reg1 (e1 := listEnv [(1, .ptr 0 1 2 0 0), (2, .ptr 1 1 2 0 0), (3, .ptr 2 1 2 0 0), (4, .val (.int .i64 x3))]) (H1 := [⟨2, [(TFacts.lit a0)], 0, none⟩, ⟨2, [[.val (.int .u64 0), .val (.slice none 0 0)]], 0, none⟩, ⟨2, [[.val (.int .u64 a0.Gen), .own 3 ((x2 ++ [(bitOp .andNot .u64 (rdl a0.Rows x3) a0.Gen)]).length)]], 0, none⟩, ⟨1, (x2 ++ [(bitOp .andNot .u64 (rdl a0.Rows x3) a0.Gen)]).map (cInt .u64), 0, none⟩, ⟨1, [(bitOp .andNot .u64 (rdl a0.Rows x3) a0.Gen)].map (cInt .u64), 0, none⟩, Blk.hole]) rfl ?_ ?_
      · exact .drawM [(12, 27, .ptr 2 1 2 0 1), (11, 26, .own 3 ((x2 ++ [(bitOp .andNot .u64 (rdl a0.Rows x3) a0.Gen)]).length)), (10, 25, .own 4 ([(bitOp .andNot .u64 (rdl a0.Rows x3) a0.Gen)].length)), (9, 24, .val (.int .u64 (bitOp .andNot .u64 (rdl a0.Rows x3) a0.Gen))), (8, 23, .val (.int .u64 a0.Gen)), (7, 22, .ptr 0 1 2 0 0), (6, 21, .val (.int .u64 (rdl a0.Rows x3))), (5, 20, .cptr ((cInt .u64) (rdl a0.Rows x3)) 0), (4, 19, .val (.int .i64 x3)), (3, 18, .rows (a0.Rows.map (cInt .u64))), (2, 17, .ptr 0 1 2 0 1), (1, 16, .own 3 x2.length), (0, 15, .ptr 2 1 2 0 1)] [(13, 2, ⟨2, [[.val (.int .u64 a0.Gen), .own 3 ((x2 ++ [(bitOp .andNot .u64 (rdl a0.Rows x3) a0.Gen)]).length)]], 0, none⟩), (11, 3, ⟨1, (x2 ++ [(bitOp .andNot .u64 (rdl a0.Rows x3) a0.Gen)]).map (cInt .u64), 0, none⟩), (10, 4, ⟨1, [(bitOp .andNot .u64 (rdl a0.Rows x3) a0.Gen)].map (cInt .u64), 0, none⟩)] [[], [0], [], [2], [], [3, 2, 4], [5, 3, 2, 4], [], [7], [6, 5, 3, 2, 4, 8, 7], [9, 6, 5, 3, 2, 4, 8, 7], [1, 0, 10, 9, 6, 5, 3, 2, 4, 8, 7], [0, 1, 2, 3, 4, 5, 6, 7, 8, 9, 10, 11], [12, 0, 1, 2, 3, 4, 5, 6, 7, 8, 9, 10, 11]] (by rfl) (by rfl) (by rfl) (by exact ⟨fun S hS hD hn => .one 0 hS hD hn rfl rfl (faP fa44_1 rfl) rfl rfl rfl, fun S hS hD hn => .one 0 hS hD hn rfl rfl (ldP rfl sz42 ag42 rfl) rfl rfl rfl, fun S hS hD hn => .one 0 hS hD hn rfl rfl (faP fa44_1 rfl) rfl rfl rfl, fun S hS hD hn => .one 0 hS hD hn rfl rfl (ldP rfl sz42 ag42 rfl) rfl rfl rfl, fun S hS hD hn => .one 0 hS hD hn rfl rfl (mvV rfl) rfl rfl rfl, fun S hS hD hn => .one 0 hS hD hn rfl rfl (ixR (l := a0.Rows) (lit := (cInt .u64)) sl42 rfl rfl (fun _ => rfl) g11_5.1 g11_5.2) rfl rfl rfl, fun S hS hD hn => .one 0 hS hD hn rfl rfl (ldC rfl sz41 ag41 rfl) rfl rfl rfl, fun S hS hD hn => .one 0 hS hD hn rfl rfl (faP fa44_0 rfl) rfl rfl rfl, fun S hS hD hn => .one 0 hS hD hn rfl rfl (ldP rfl sz41 ag41 rfl) rfl rfl rfl, fun S hS hD hn => .one 0 hS hD hn rfl rfl (andNotI rfl rfl) rfl rfl rfl, fun S hS hD hn => .one 4 hS hD hn rfl rfl (bldL (s := 1) (cs := [.val (.int .u64 (bitOp .andNot .u64 (rdl a0.Rows x3) a0.Gen))]) un42 sz41 ze41 ⟨by decide, rfl, by decide⟩ rfl rfl rfl rfl) rfl rfl rfl, fun S hS hD hn => .one 0 hS hD hn rfl rfl (ap1 (l := x2) (bitOp .andNot .u64 (rdl a0.Rows x3) a0.Gen) sl42 rfl rfl rfl (Nat.zero_le _) (elems_own (l := [(bitOp .andNot .u64 (rdl a0.Rows x3) a0.Gen)]) rfl rfl) g11_11) rfl rfl rfl, fun S hS hD hn => .one 0 hS hD hn rfl rfl (faP fa44_1 rfl) rfl rfl rfl, fun S hS hD hn => .one0 0 rfl rfl (stB (cs0 := [.val (.int .u64 a0.Gen), .own 3 x2.length]) (cs := [.own 3 ((x2 ++ [(bitOp .andNot .u64 (rdl a0.Rows x3) a0.Gen)]).length)]) (cs1 := [.val (.int .u64 a0.Gen), .own 3 ((x2 ++ [(bitOp .andNot .u64 (rdl a0.Rows x3) a0.Gen)]).length)]) rfl rfl sz42 rfl ⟨Nat.le_of_ble_eq_true rfl, rfl⟩ rfl) (drawE_other _ _ _ _ rfl) rfl, trivial⟩) _ (by exact ⟨.ptr rfl, .ptr rfl, .ptr rfl, .free rfl rfl, trivial⟩) (by rfl)
      refine .inBlock ?_
      refine .reg0 rfl (.op 0 rfl (mvV rfl) <| .op 0 rfl (addI rfl rfl) <| .op 0 rfl (asV rfl) <| .nil0) ?_
      refine .keepL [0, 1, 2, 3] [(1, .ptr 0 1 2 0 0), (2, .ptr 1 1 2 0 0), (3, .ptr 2 1 2 0 0), (4, .val (.int .i64 (IntKind.i64.wrap (x3 + 1))))] [⟨2, [(TFacts.lit a0)], 0, none⟩, ⟨2, [[.val (.int .u64 0), .val (.slice none 0 0)]], 0, none⟩, ⟨2, [[.val (.int .u64 a0.Gen), .own 3 ((x2 ++ [(bitOp .andNot .u64 (rdl a0.Rows x3) a0.Gen)]).length)]], 0, none⟩, ⟨1, (x2 ++ [(bitOp .andNot .u64 (rdl a0.Rows x3) a0.Gen)]).map (cInt .u64), 0, none⟩] (by decide) (by decide) ⟨.ptr rfl, .ptr rfl, .ptr rfl, .free rfl rfl, trivial⟩ ⟨⟨_, rfl, bcBox (all2_free rfl)⟩, ⟨_, rfl, bcBox (all2_free rfl)⟩, ⟨_, rfl, bcBox (.cons (.free rfl rfl) <| .cons (.own rfl) <| .nil)⟩, ⟨_, rfl, bcRow (l := (x2 ++ [(bitOp .andNot .u64 (rdl a0.Rows x3) a0.Gen)])) sl42 (Nat.le_refl _) rfl⟩, trivial⟩ ?_
      exact hn1 _ h
    · rw [if_neg c3] at h
      refine .condF rfl (decide_eq_false c3) ?_
      refine .exit rfl ?_
      refine .keepL [1, 2, 3] [(2, .ptr 0 1 2 0 0), (3, .ptr 1 1 2 0 0)] [⟨2, [[.val (.int .u64 0), .val (.slice none 0 0)]], 0, none⟩, ⟨2, [[.val (.int .u64 a0.Gen), .own 2 x2.length]], 0, none⟩, ⟨1, x2.map (cInt .u64), 0, none⟩] (by decide) (by decide) ⟨.ptr rfl, .ptr rfl, trivial⟩ ⟨⟨_, rfl, bcBox (all2_free rfl)⟩, ⟨_, rfl, bcBox (.cons (.free rfl rfl) <| .cons (.own rfl) <| .nil)⟩, ⟨_, rfl, bcRow (l := x2) sl42 (Nat.le_refl _) rfl⟩, trivial⟩ ?_
      exact hx1 _ h
def r03_Same.b1 (a0 : TFacts) (a1 : TFacts) : Int → Rnd Int Unit Bool → Prop := fun x1 z1 => if x1 < (a0.Rows.length : Int) then (((InR x1 a0.Rows.length)) ∧ ((InR x1 a1.Rows.length)) ∧ if (rdl a0.Rows x1) = (rdl a1.Rows x1) then (z1 = .next (IntKind.i64.wrap (x1 + 1))) else (z1 = .ret false)) else (z1 = .exit ())
def r03_Same.f (a0 : TFacts) (a1 : TFacts) (r : Bool) : Prop :=
  if ((!(a0.Gen == a1.Gen)) || ((a0.Rows.length : Int) != (a1.Rows.length : Int))) = true then (r = false) else (∃ o1 : Fin Unit Bool, Loop (r03_Same.b1 a0 a1) 0 o1 ∧ o1.on (fun _ => r = true) (fun r_ => r = r_))
theorem r03_Same.D {a0 : TFacts} {a1 : TFacts} {r : Bool} (h : r03_Same.f a0 a1 r) : D Try.prog X (.callH 28 [.agg (TFacts.lit a0), .agg (TFacts.lit a1)] [] (.val (.bool r)) []) := by
  unfold r03_Same.f at h
  refine .enter 38 0 fn28 rfl rfl rfl ?_
  refine .seq ?_
  refine .room 0 ?_
  refine .room 0 ?_
  refine .reg0 rfl (.op 0 rfl (bxP (s := 2) (cs := (TFacts.lit a0)) rfl ⟨rfl, by decide, rfl⟩ rfl) <| .op 1 rfl (bxP (s := 2) (cs := (TFacts.lit a1)) rfl ⟨rfl, by decide, rfl⟩ rfl) <| .op 0 rfl (asV rfl) <| .nil0) ?_
  refine .seq ?_
  refine .seq ?_
  refine .reg0 (e1 := listEnv [(2, .ptr 0 1 2 0 0), (3, .ptr 1 1 2 0 0), (19, .val (.bool ((!(a0.Gen == a1.Gen)) || ((a0.Rows.length : Int) != (a1.Rows.length : Int)))))]) (H1 := [⟨2, [(TFacts.lit a0)], 0, none⟩, ⟨2, [(TFacts.lit a1)], 0, none⟩]) rfl ?_ ?_
  · by_cases c1 : a0.Gen = a1.Gen
    · exact (.op 0 rfl (faP fa44_0 rfl) <| .op 0 rfl (ldP rfl sz41 ag41 rfl) <| .op 0 rfl (faP fa44_0 rfl) <| .op 0 rfl (ldP rfl sz41 ag41 rfl) <| .op 0 rfl (neI rfl rfl) <| .op 0 rfl (mvV rfl) <| .op 0 (gT rfl rfl rfl (bne_eq_false_iff_eq.mpr c1)) (faP fa44_1 rfl) <| .op 0 (gT rfl rfl rfl (bne_eq_false_iff_eq.mpr c1)) (ldP rfl sz42 ag42 rfl) <| .op 0 (gT rfl rfl rfl (bne_eq_false_iff_eq.mpr c1)) (lnR (l := a0.Rows) sl42 rfl) <| .op 0 (gT rfl rfl rfl (bne_eq_false_iff_eq.mpr c1)) (faP fa44_1 rfl) <| .op 0 (gT rfl rfl rfl (bne_eq_false_iff_eq.mpr c1)) (ldP rfl sz42 ag42 rfl) <| .op 0 (gT rfl rfl rfl (bne_eq_false_iff_eq.mpr c1)) (lnR (l := a1.Rows) sl42 rfl) <| .op 0 (gT rfl rfl rfl (bne_eq_false_iff_eq.mpr c1)) (neI rfl rfl) <| .op 0 rfl (pkFV rfl (bne_eq_false_iff_eq.mpr c1) rfl) <| .nilL _ ⟨.ptr rfl, .ptr rfl, cB rfl (mOrF (bnotF (beq_iff_eq.mpr c1)) rfl), trivial⟩)
    · exact (.op 0 rfl (faP fa44_0 rfl) <| .op 0 rfl (ldP rfl sz41 ag41 rfl) <| .op 0 rfl (faP fa44_0 rfl) <| .op 0 rfl (ldP rfl sz41 ag41 rfl) <| .op 0 rfl (neI rfl rfl) <| .op 0 rfl (mvV rfl) <| .no (gF rfl rfl rfl (bne_iff_ne.mpr c1)) <| .no (gF rfl rfl rfl (bne_iff_ne.mpr c1)) <| .no (gF rfl rfl rfl (bne_iff_ne.mpr c1)) <| .no (gF rfl rfl rfl (bne_iff_ne.mpr c1)) <| .no (gF rfl rfl rfl (bne_iff_ne.mpr c1)) <| .no (gF rfl rfl rfl (bne_iff_ne.mpr c1)) <| .no (gF rfl rfl rfl (bne_iff_ne.mpr c1)) <| .op 0 rfl (pkTV rfl (bne_iff_ne.mpr c1) rfl) <| .nilL _ ⟨.ptr rfl, .ptr rfl, cB rfl (mOrT (bnotT (beq_eq_false_iff_ne.mpr c1))), trivial⟩)
  by_cases c2 : ((!(a0.Gen == a1.Gen)) || ((a0.Rows.length : Int) != (a1.Rows.length : Int))) = true
  · rw [if_pos c2] at h
    refine .condT rfl c2 ?_
    refine .seq ?_
    refine .reg0 rfl (.op 0 rfl (asV rfl) <| .nil0) ?_
    replace h := h.symm
    subst h
    refine .keepL [] [(4, .val (.bool false))] [] (by decide) (by decide) ⟨.free rfl rfl, trivial⟩ trivial ?_
    exact .ret rfl
  · rw [if_neg c2] at h
    refine .condF rfl (Bool.eq_false_iff.mpr c2) ?_
    refine .skip ?_
    refine .seq ?_
    refine .seq ?_
    refine .reg0 rfl (.op 0 rfl (asV rfl) <| .nil0) ?_
    refine .block ?_
    refine .keepL [0, 1] [(2, .ptr 0 1 2 0 0), (3, .ptr 1 1 2 0 0), (5, .val (.int .i64 0))] [⟨2, [(TFacts.lit a0)], 0, none⟩, ⟨2, [(TFacts.lit a1)], 0, none⟩] (by decide) (by decide) ⟨.ptr rfl, .ptr rfl, .free rfl rfl, trivial⟩ ⟨⟨_, rfl, bcBox (all2_free rfl)⟩, ⟨_, rfl, bcBox (all2_free rfl)⟩, trivial⟩ ?_
    obtain ⟨o1, hL1, h⟩ := h
    refine .loopB (r03_Same.b1 a0 a1) (fun x1 => listEnv [(2, .ptr 0 1 2 0 0), (3, .ptr 1 1 2 0 0), (5, .val (.int .i64 x1))]) (fun x1 => [⟨2, [(TFacts.lit a0)], 0, none⟩, ⟨2, [(TFacts.lit a1)], 0, none⟩]) (fun _ => listEnv []) (fun _ => []) hL1 (fun r_ => r = r_) ?_ ?_ ?_
    · rintro ⟨⟩ rfl
      try dsimp only [Fin.on] at h
      refine .seq ?_
      refine .reg0 rfl (.op 0 rfl (asV rfl) <| .nil0) ?_
      replace h := h.symm
      subst h
      refine .keepL [] [(4, .val (.bool true))] [] (by decide) (by decide) ⟨.free rfl rfl, trivial⟩ trivial ?_
      exact .ret rfl
    · rintro r_ rfl
      exact h
    · rintro x1 z1 h hn1 hx1 hr1
      dsimp only [r03_Same.b1] at h
      refine .seq ?_
      refine .seq ?_
      refine .reg0 rfl (.op 0 rfl (mvV rfl) <| .op 0 rfl (faP fa44_1 rfl) <| .op 0 rfl (ldP rfl sz42 ag42 rfl) <| .op 0 rfl (lnR (l := a0.Rows) sl42 rfl) <| .op 0 rfl (ltI rfl rfl) <| .nil0) ?_
      by_cases c7 : x1 < (a0.Rows.length : Int)
      · rw [if_pos c7] at h
        refine .condT rfl (decide_eq_true c7) ?_
        refine .skip ?_
        refine .seq ?_
        refine .block ?_
        refine .seq ?_
        obtain ⟨g14_3, h⟩ := h
        obtain ⟨g14_8, h⟩ := h
        refine .reg1 (e1 := listEnv [(2, .ptr 0 1 2 0 0), (3, .ptr 1 1 2 0 0), (5, .val (.int .i64 x1)), (37, .val (.bool ((rdl a0.Rows x1) != (rdl a1.Rows x1))))]) (H1 := [⟨2, [(TFacts.lit a0)], 0, none⟩, ⟨2, [(TFacts.lit a1)], 0, none⟩]) rfl ?_ ?_
        · exact .drawM [(10, 37, .val (.bool ((rdl a0.Rows x1) != (rdl a1.Rows x1)))), (9, 36, .val (.int .u64 (rdl a1.Rows x1))), (8, 35, .cptr ((cInt .u64) (rdl a1.Rows x1)) 0), (7, 34, .val (.int .i64 x1)), (6, 33, .rows (a1.Rows.map (cInt .u64))), (5, 32, .ptr 1 1 2 0 1), (4, 31, .val (.int .u64 (rdl a0.Rows x1))), (3, 30, .cptr ((cInt .u64) (rdl a0.Rows x1)) 0), (2, 29, .val (.int .i64 x1)), (1, 28, .rows (a0.Rows.map (cInt .u64))), (0, 27, .ptr 0 1 2 0 1)] [] [[], [0], [], [1, 0, 2], [3, 1, 0, 2], [], [5], [], [6, 5, 7], [8, 6, 5, 7], [4, 3, 1, 0, 2, 9, 8, 6, 5, 7]] (by rfl) (by rfl) (by rfl) (by exact ⟨fun S hS hD hn => .one 0 hS hD hn rfl rfl (faP fa44_1 rfl) rfl rfl rfl, fun S hS hD hn => .one 0 hS hD hn rfl rfl (ldP rfl sz42 ag42 rfl) rfl rfl rfl, fun S hS hD hn => .one 0 hS hD hn rfl rfl (mvV rfl) rfl rfl rfl, fun S hS hD hn => .one 0 hS hD hn rfl rfl (ixR (l := a0.Rows) (lit := (cInt .u64)) sl42 rfl rfl (fun _ => rfl) g14_3.1 g14_3.2) rfl rfl rfl, fun S hS hD hn => .one 0 hS hD hn rfl rfl (ldC rfl sz41 ag41 rfl) rfl rfl rfl, fun S hS hD hn => .one 0 hS hD hn rfl rfl (faP fa44_1 rfl) rfl rfl rfl, fun S hS hD hn => .one 0 hS hD hn rfl rfl (ldP rfl sz42 ag42 rfl) rfl rfl rfl, fun S hS hD hn => .one 0 hS hD hn rfl rfl (mvV rfl) rfl rfl rfl, fun S hS hD hn => .one 0 hS hD hn rfl rfl (ixR (l := a1.Rows) (lit := (cInt .u64)) sl42 rfl rfl (fun _ => rfl) g14_8.1 g14_8.2) rfl rfl rfl, fun S hS hD hn => .one 0 hS hD hn rfl rfl (ldC rfl sz41 ag41 rfl) rfl rfl rfl, fun S hS hD hn => .one 0 hS hD hn rfl rfl (neI rfl rfl) rfl rfl rfl, trivial⟩) _ (by exact ⟨.ptr rfl, .ptr rfl, .free rfl rfl, .free rfl rfl, trivial⟩) (by rfl)
        by_cases c8 : (rdl a0.Rows x1) = (rdl a1.Rows x1)
        · rw [if_pos c8] at h
          refine .condF rfl (bne_eq_false_iff_eq.mpr c8) ?_
          refine .skip ?_
          refine .inBlock ?_
          refine .reg0 rfl (.op 0 rfl (mvV rfl) <| .op 0 rfl (addI rfl rfl) <| .op 0 rfl (asV rfl) <| .nil0) ?_
          refine .keepL [0, 1] [(2, .ptr 0 1 2 0 0), (3, .ptr 1 1 2 0 0), (5, .val (.int .i64 (IntKind.i64.wrap (x1 + 1))))] [⟨2, [(TFacts.lit a0)], 0, none⟩, ⟨2, [(TFacts.lit a1)], 0, none⟩] (by decide) (by decide) ⟨.ptr rfl, .ptr rfl, .free rfl rfl, trivial⟩ ⟨⟨_, rfl, bcBox (all2_free rfl)⟩, ⟨_, rfl, bcBox (all2_free rfl)⟩, trivial⟩ ?_
          exact hn1 _ h
        · rw [if_neg c8] at h
          refine .condT rfl (bne_iff_ne.mpr c8) ?_
          refine .seq ?_
          refine .reg0 rfl (.op 0 rfl (asV rfl) <| .nil0) ?_
          have q3 := hr1 _ h
          replace q3 := q3.symm
          subst q3
          refine .keepL [] [(4, .val (.bool false))] [] (by decide) (by decide) ⟨.free rfl rfl, trivial⟩ trivial ?_
          exact .ret rfl
      · rw [if_neg c7] at h
        refine .condF rfl (decide_eq_false c7) ?_
        refine .exit rfl ?_
        refine .keepL [] [] [] (by decide) (by decide) trivial trivial ?_
        exact hx1 _ h
def r03_Check.f (a0 : Int) (a1 : TFacts) (r : Int) : Prop :=
  ∃ t2_1 : Bool, (r03_dim.f a0 t2_1) ∧ if t2_1 = true then (∃ t3_2 : Bool, (r03_shape.f a0 a1 t3_2) ∧ ∃ t3_6 : TFacts, ((t3_2 = true) → r03_canon.f a1 t3_6) ∧ ∃ t3_8 : Bool, ((t3_2 = true) → r03_Same.f t3_6 a1 t3_8) ∧ if ((!t3_2) || (!t3_8)) = true then (r = 30) else (r = 0)) else (r = 31)
theorem r03_Check.D {a0 : Int} {a1 : TFacts} {r : Int} (h : r03_Check.f a0 a1 r) : D Try.prog X (.callH 70 [.val (.int .i64 a0), .agg (TFacts.lit a1)] [] (.val (.int .i64 r)) []) := by
  unfold r03_Check.f at h
  refine .enter 19 0 fn70 rfl rfl rfl ?_
  refine .seq ?_
  refine .room 0 ?_
  refine .reg0 rfl (.op 0 rfl (bxP (s := 2) (cs := (TFacts.lit a1)) rfl ⟨rfl, by decide, rfl⟩ rfl) <| .op 0 rfl (asV rfl) <| .nil0) ?_
  refine .seq ?_
  refine .seq ?_
  obtain ⟨t2_1, g2_1, h⟩ := h
  refine .reg0 rfl (.op 0 rfl (mvV rfl) <| .callI rfl (callee_of rfl go77 rfl) (.pure rfl rfl (r03_dim.D g2_1)) <| .op 0 rfl (notB rfl) <| .nil0) ?_
  by_cases c1 : t2_1 = true
  · rw [if_pos c1] at h
    refine .condF rfl (bnotF c1) ?_
    refine .skip ?_
    refine .seq ?_
    refine .seq ?_
    obtain ⟨t3_2, g3_2, h⟩ := h
    obtain ⟨t3_6, g3_6, h⟩ := h
    obtain ⟨t3_8, g3_8, h⟩ := h
    refine .reg1 (e1 := listEnv [(18, .val (.bool ((!t3_2) || (!t3_8))))]) (H1 := [⟨2, [(TFacts.lit a1)], 0, none⟩]) rfl ?_ ?_
    · by_cases c2 : t3_2 = true
      · exact .drawM [(10, 18, .val (.bool (!t3_8))), (9, 17, .val (.bool (!t3_8))), (8, 16, .val (.bool t3_8)), (7, 15, .agg (TFacts.lit a1)), (6, 14, .agg (TFacts.lit t3_6)), (5, 13, .agg (TFacts.lit a1)), (4, 12, .val (.bool (!t3_2))), (3, 11, .val (.bool (!t3_2))), (2, 10, .val (.bool t3_2)), (1, 9, .agg (TFacts.lit a1)), (0, 8, .val (.int .i64 a0))] [] [[], [], [0, 1], [2, 0, 1], [3, 2, 0, 1], [4, 3, 2, 0, 1], [5, 4, 3, 2, 0, 1], [4, 3, 2, 0, 1], [6, 5, 4, 3, 2, 0, 1, 7], [8, 6, 5, 4, 3, 2, 0, 1, 7], [4, 3, 2, 0, 1, 9, 8, 6, 5, 7]] (by rfl) (by rfl) (by rfl) (by exact ⟨fun S hS hD hn => .one 0 hS hD hn rfl rfl (mvV rfl) rfl rfl rfl, fun S hS hD hn => .one 0 hS hD hn rfl rfl (ldG rfl sz44 ag44 rfl) rfl rfl rfl, fun S hS hD hn => .oneI hS hD hn rfl rfl (callee_of rfl go86 rfl) (.pure rfl rfl (r03_shape.D g3_2)) rfl rfl rfl, fun S hS hD hn => .one 0 hS hD hn rfl rfl (notB rfl) rfl rfl rfl, fun S hS hD hn => .one 0 hS hD hn rfl rfl (mvV rfl) rfl rfl rfl, fun S hS hD hn => .one 0 hS hD hn (gT rfl rfl rfl (bnotF c2)) rfl (ldG rfl sz44 ag44 rfl) rfl rfl rfl, fun S hS hD hn => .oneI hS hD hn (gT rfl rfl rfl (bnotF c2)) rfl (callee_of rfl go74 rfl) (.pure rfl rfl (r03_canon.D (g3_6 c2))) rfl rfl rfl, fun S hS hD hn => .one 0 hS hD hn (gT rfl rfl rfl (bnotF c2)) rfl (ldG rfl sz44 ag44 rfl) rfl rfl rfl, fun S hS hD hn => .oneI hS hD hn (gT rfl rfl rfl (bnotF c2)) rfl (callee_of rfl go28 rfl) (.pure rfl rfl (r03_Same.D (g3_8 c2))) rfl rfl rfl, fun S hS hD hn => .one 0 hS hD hn (gT rfl rfl rfl (bnotF c2)) rfl (notB rfl) rfl rfl rfl, fun S hS hD hn => .one 0 hS hD hn rfl rfl (pkFV rfl (bnotF c2) rfl) rfl rfl rfl, trivial⟩) _ (by exact ⟨cB rfl (mOrF (bnotF c2) rfl), trivial⟩) (by rfl)
      · exact .drawM [(10, 18, .val (.bool true)), (9, 17, .val undef), (8, 16, .val undef), (7, 15, .val undef), (6, 14, .val undef), (5, 13, .val undef), (4, 12, .val (.bool (!t3_2))), (3, 11, .val (.bool (!t3_2))), (2, 10, .val (.bool t3_2)), (1, 9, .agg (TFacts.lit a1)), (0, 8, .val (.int .i64 a0))] [] [[], [], [0, 1], [2, 0, 1], [3, 2, 0, 1], [4, 3, 2, 0, 1], [5, 4, 3, 2, 0, 1], [4, 3, 2, 0, 1], [6, 5, 4, 3, 2, 0, 1, 7], [8, 6, 5, 4, 3, 2, 0, 1, 7], [4, 3, 2, 0, 1, 9, 8, 6, 5, 7]] (by rfl) (by rfl) (by rfl) (by exact ⟨fun S hS hD hn => .one 0 hS hD hn rfl rfl (mvV rfl) rfl rfl rfl, fun S hS hD hn => .one 0 hS hD hn rfl rfl (ldG rfl sz44 ag44 rfl) rfl rfl rfl, fun S hS hD hn => .oneI hS hD hn rfl rfl (callee_of rfl go86 rfl) (.pure rfl rfl (r03_shape.D g3_2)) rfl rfl rfl, fun S hS hD hn => .one 0 hS hD hn rfl rfl (notB rfl) rfl rfl rfl, fun S hS hD hn => .one 0 hS hD hn rfl rfl (mvV rfl) rfl rfl rfl, fun S hS hD hn => .oneNo hS hD (gF rfl rfl rfl (bnotT (Bool.eq_false_iff.mpr c2))) rfl hn rfl rfl rfl, fun S hS hD hn => .oneNo hS hD (gF rfl rfl rfl (bnotT (Bool.eq_false_iff.mpr c2))) rfl hn rfl rfl rfl, fun S hS hD hn => .oneNo hS hD (gF rfl rfl rfl (bnotT (Bool.eq_false_iff.mpr c2))) rfl hn rfl rfl rfl, fun S hS hD hn => .oneNo hS hD (gF rfl rfl rfl (bnotT (Bool.eq_false_iff.mpr c2))) rfl hn rfl rfl rfl, fun S hS hD hn => .oneNo hS hD (gF rfl rfl rfl (bnotT (Bool.eq_false_iff.mpr c2))) rfl hn rfl rfl rfl, fun S hS hD hn => .one 0 hS hD hn rfl rfl (pkTV rfl (bnotT (Bool.eq_false_iff.mpr c2)) rfl) rfl rfl rfl, trivial⟩) _ (by exact ⟨cB rfl (mOrT (bnotT (Bool.eq_false_iff.mpr c2))), trivial⟩) (by rfl)
    by_cases c3 : ((!t3_2) || (!t3_8)) = true
    · rw [if_pos c3] at h
      refine .condT rfl c3 ?_
      refine .seq ?_
      refine .reg0 rfl (.op 0 rfl (asV rfl) <| .nil0) ?_
      replace h := h.symm
      subst h
      refine .keepL [] [(4, .val (.int .i64 30))] [] (by decide) (by decide) ⟨.free rfl rfl, trivial⟩ trivial ?_
      exact .ret rfl
    · rw [if_neg c3] at h
      refine .condF rfl (Bool.eq_false_iff.mpr c3) ?_
      refine .skip ?_
      refine .seq ?_
      refine .reg0 rfl (.op 0 rfl (asV rfl) <| .nil0) ?_
      replace h := h.symm
      subst h
      refine .keepL [] [(4, .val (.int .i64 0))] [] (by decide) (by decide) ⟨.free rfl rfl, trivial⟩ trivial ?_
      exact .ret rfl
  · rw [if_neg c1] at h
    refine .condT rfl (bnotT (Bool.eq_false_iff.mpr c1)) ?_
    refine .seq ?_
    refine .reg0 rfl (.op 0 rfl (asV rfl) <| .nil0) ?_
    replace h := h.symm
    subst h
    refine .keepL [] [(4, .val (.int .i64 31))] [] (by decide) (by decide) ⟨.free rfl rfl, trivial⟩ trivial ?_
    exact .ret rfl
def r05_cell.f (a0 : Int) (a1 : TCell) (r : Bool) : Prop :=
  ∃ t2_3 : Bool, (r03_Inside.f a0 a1.From t2_3) ∧ if t2_3 = true then (if a1.Kind = 0 then (r = (a1.K == 0)) else (if a1.Kind = 1 then (r = true) else (if a1.Kind = 2 then (r = ((a1.K == 0) && (a1.From == 0))) else (r = false)))) else (r = false)
theorem r05_cell.D {a0 : Int} {a1 : TCell} {r : Bool} (h : r05_cell.f a0 a1 r) : D Try.prog X (.callH 71 [.val (.int .i64 a0), .agg (TCell.lit a1)] [] (.val (.bool r)) []) := by
  unfold r05_cell.f at h
  refine .enter 29 0 fn71 rfl rfl rfl ?_
  refine .seq ?_
  refine .room 0 ?_
  refine .reg0 rfl (.op 0 rfl (bxP (s := 3) (cs := (TCell.lit a1)) rfl ⟨rfl, by decide, rfl⟩ rfl) <| .op 0 rfl (asV rfl) <| .nil0) ?_
  refine .seq ?_
  refine .seq ?_
  obtain ⟨t2_3, g2_3, h⟩ := h
  refine .reg0 rfl (.op 0 rfl (mvV rfl) <| .op 0 rfl (faP fa72_0 rfl) <| .op 0 rfl (ldP rfl sz41 ag41 rfl) <| .callI rfl (callee_of rfl go87 rfl) (.pure rfl rfl (r03_Inside.D g2_3)) <| .op 0 rfl (notB rfl) <| .nil0) ?_
  by_cases c1 : t2_3 = true
  · rw [if_pos c1] at h
    refine .condF rfl (bnotF c1) ?_
    refine .skip ?_
    refine .seq ?_
    refine .seq ?_
    refine .reg0 rfl (.op 0 rfl (faP fa72_1 rfl) <| .op 0 rfl (ldP rfl sz70 ag70 rfl) <| .nil0) ?_
    refine .block ?_
    refine .seq ?_
    refine .reg0 rfl (.op 0 rfl (eqI rfl rfl) <| .op 0 rfl (asV rfl) <| .nil0) ?_
    by_cases c2 : a1.Kind = 0
    · rw [if_pos c2] at h
      refine .condT rfl (beq_iff_eq.mpr c2) ?_
      refine .seq ?_
      refine .reg0 rfl (.op 0 rfl (faP fa72_2 rfl) <| .op 0 rfl (ldP rfl sz2 ag2 rfl) <| .op 0 rfl (eqI rfl rfl) <| .op 0 rfl (asV rfl) <| .nil0) ?_
      replace h := h.symm
      subst h
      refine .keepL [] [(4, .val (.bool (a1.K == 0)))] [] (by decide) (by decide) ⟨.free rfl rfl, trivial⟩ trivial ?_
      exact .ret rfl
    · rw [if_neg c2] at h
      refine .condF rfl (beq_eq_false_iff_ne.mpr c2) ?_
      refine .seq ?_
      refine .reg0 rfl (.op 0 rfl (eqI rfl rfl) <| .op 0 rfl (asV rfl) <| .nil0) ?_
      by_cases c3 : a1.Kind = 1
      · rw [if_pos c3] at h
        refine .condT rfl (beq_iff_eq.mpr c3) ?_
        refine .seq ?_
        refine .reg0 rfl (.op 0 rfl (asV rfl) <| .nil0) ?_
        replace h := h.symm
        subst h
        refine .keepL [] [(4, .val (.bool true))] [] (by decide) (by decide) ⟨.free rfl rfl, trivial⟩ trivial ?_
        exact .ret rfl
      · rw [if_neg c3] at h
        refine .condF rfl (beq_eq_false_iff_ne.mpr c3) ?_
        refine .seq ?_
        refine .reg0 rfl (.op 0 rfl (eqI rfl rfl) <| .op 0 rfl (asV rfl) <| .nil0) ?_
        by_cases c4 : a1.Kind = 2
        · rw [if_pos c4] at h
          refine .condT rfl (beq_iff_eq.mpr c4) ?_
          refine .seq ?_
          refine .reg0 (e1 := listEnv [(4, .val (.bool ((a1.K == 0) && (a1.From == 0))))]) (H1 := [⟨3, [(TCell.lit a1)], 0, none⟩]) rfl ?_ ?_
          · by_cases c5 : a1.K = 0
            · exact (.op 0 rfl (faP fa72_2 rfl) <| .op 0 rfl (ldP rfl sz2 ag2 rfl) <| .op 0 rfl (eqI rfl rfl) <| .op 0 rfl (mvV rfl) <| .op 0 (gT rfl rfl rfl (beq_iff_eq.mpr c5)) (faP fa72_0 rfl) <| .op 0 (gT rfl rfl rfl (beq_iff_eq.mpr c5)) (ldP rfl sz41 ag41 rfl) <| .op 0 (gT rfl rfl rfl (beq_iff_eq.mpr c5)) (eqI rfl rfl) <| .op 0 rfl (pkTV rfl (beq_iff_eq.mpr c5) rfl) <| .op 0 rfl (asV rfl) <| .nilL _ ⟨cB rfl (mAndT (beq_iff_eq.mpr c5) rfl), trivial⟩)
            · exact (.op 0 rfl (faP fa72_2 rfl) <| .op 0 rfl (ldP rfl sz2 ag2 rfl) <| .op 0 rfl (eqI rfl rfl) <| .op 0 rfl (mvV rfl) <| .no (gF rfl rfl rfl (beq_eq_false_iff_ne.mpr c5)) <| .no (gF rfl rfl rfl (beq_eq_false_iff_ne.mpr c5)) <| .no (gF rfl rfl rfl (beq_eq_false_iff_ne.mpr c5)) <| .op 0 rfl (pkFV rfl (beq_eq_false_iff_ne.mpr c5) rfl) <| .op 0 rfl (asV rfl) <| .nilL _ ⟨cB rfl (mAndF (beq_eq_false_iff_ne.mpr c5)), trivial⟩)
          replace h := h.symm
          subst h
          refine .keepL [] [(4, .val (.bool ((a1.K == 0) && (a1.From == 0))))] [] (by decide) (by decide) ⟨.free rfl rfl, trivial⟩ trivial ?_
          exact .ret rfl
        · rw [if_neg c4] at h
          refine .condF rfl (beq_eq_false_iff_ne.mpr c4) ?_
          refine .skip ?_
          refine .inBlock ?_
          refine .seq ?_
          refine .reg0 rfl (.op 0 rfl (asV rfl) <| .nil0) ?_
          replace h := h.symm
          subst h
          refine .keepL [] [(4, .val (.bool false))] [] (by decide) (by decide) ⟨.free rfl rfl, trivial⟩ trivial ?_
          exact .ret rfl
  · rw [if_neg c1] at h
    refine .condT rfl (bnotT (Bool.eq_false_iff.mpr c1)) ?_
    refine .seq ?_
    refine .reg0 rfl (.op 0 rfl (asV rfl) <| .nil0) ?_
    replace h := h.symm
    subst h
    refine .keepL [] [(4, .val (.bool false))] [] (by decide) (by decide) ⟨.free rfl rfl, trivial⟩ trivial ?_
    exact .ret rfl
end Go.RM.Try
