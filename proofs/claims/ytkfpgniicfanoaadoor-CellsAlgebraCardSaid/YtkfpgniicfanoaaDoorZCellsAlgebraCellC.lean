/- CellC, for the statement CellsAlgebra: what it needs, no more. -/
import Derived.Test.YtkfpgniicfanoaaDoorZCellsAlgebraCellB
namespace Go.Proofs.YtkfpgniicfanoaaDoor.CellA
end Go.Proofs.YtkfpgniicfanoaaDoor.CellA
namespace Go.Proofs.YtkfpgniicfanoaaDoor.CellB
end Go.Proofs.YtkfpgniicfanoaaDoor.CellB
namespace Go.Proofs.YtkfpgniicfanoaaDoor.P
end Go.Proofs.YtkfpgniicfanoaaDoor.P
namespace Go.Proofs.YtkfpgniicfanoaaDoor.Plain
end Go.Proofs.YtkfpgniicfanoaaDoor.Plain
namespace Go.Proofs.YtkfpgniicfanoaaDoor.Pure
open Go.RowKit Go.Proofs.YtkfpgniicfanoaaDoor.P Go.Proofs.YtkfpgniicfanoaaDoor.Plain Go.Proofs.YtkfpgniicfanoaaDoor.CellA Go.Proofs.YtkfpgniicfanoaaDoor.CellB Go.Proofs.YtkfpgniicfanoaaDoorW.PrintWords Go.Proofs.YtkfpgniicfanoaaDoorW.PrintLast Go.Proofs.YtkfpgniicfanoaaDoorW.PrintMore
set_option linter.unusedVariables false
set_option linter.unusedSimpArgs false
theorem awake_ev : Ev (fun k => stackyardlaw04_awake.f k) true := by
  refine Ev.of stackyardlaw04_awake.mono (k := 200) ?_
  unfold stackyardlaw04_awake.f
  simp only [toList_eq]
  kernel_rfl
/-- What every list in memory is. -/
def Fits (l : List S34) : Prop := (∀ x ∈ l, fit x) ∧ l.length < 9223372036854775807
theorem three_ev (a : Int) (l m n : List S34) (hl : Fits l) (hm : Fits m) (hn : Fits n) : Ev (fun k => stackyardlaw04_three.f k a l m n) (decide (chk a l = 0 ∧ chk a m = 0 ∧ chk a n = 0)) := by
  refine Ev.bind (refCheck_ev a l hl.1) ?_
  by_cases h1 : chk a l = 0
  · simp only [h1, if_true, true_and]
    refine Ev.bind (refCheck_ev a m hm.1) ?_
    by_cases h2 : chk a m = 0
    · simp only [h2, if_true, true_and]
      refine Ev.bind (refCheck_ev a n hn.1) ?_
      refine ⟨0, fun k _ => ?_⟩
      rfl
    · simp only [h2, if_false, false_and, decide_false]; exact Ev.now _
  · simp only [h1, if_false, false_and, decide_false]; exact Ev.now _
theorem cases3 (a : Int) (l m n : List S34) (hl : Fits l) (hm : Fits m) (hn : Fits n) : Ev (fun k => stackyardlaw04_three.f k a l m n) false ∨ Ev (fun k => stackyardlaw04_three.f k a l m n) true ∧ ∃ (d : Nat) (F G H : List Cl), a = d ∧ GoodC d F ∧ GoodC d G ∧ GoodC d H ∧ l = F.map dec ∧ m = G.map dec ∧ n = H.map dec := by
  have h3 := three_ev a l m n hl hm hn
  by_cases h : chk a l = 0 ∧ chk a m = 0 ∧ chk a n = 0
  · rw [decide_eq_true h] at h3
    obtain ⟨d, F, rfl, hF, rfl⟩ := chk_good hl.1 h.1
    obtain ⟨d', G, e, hG, rfl⟩ := chk_good hm.1 h.2.1
    obtain rfl : d = d' := by omega
    obtain ⟨d', H, e, hH, rfl⟩ := chk_good hn.1 h.2.2
    obtain rfl : d = d' := by omega
    exact .inr ⟨h3, d, F, G, H, rfl, hF, hG, hH, rfl, rfl, rfl⟩
  · rw [decide_eq_false h] at h3
    exact .inl h3
theorem then_ev {d : Nat} {F G : List Cl} (hF : GoodC d F) (hG : GoodC d G) : Ev (fun k => stackyardlaw04_then.f k (d : Int) (F.map dec) (G.map dec)) ((G.map (ofC F)).map dec) := Ev.bind (Then_good hF hG) (Ev.now _)
theorem both_ev2 {d : Nat} {F G : List Cl} (hF : GoodC d F) (hG : GoodC d G) : Ev (fun k => stackyardlaw04_both.f k (d : Int) (F.map dec) (G.map dec)) ((List.zipWith J F G).map dec) := Ev.bind (Both_good hF hG) (Ev.now _)
theorem same_good {d : Nat} {F G : List Cl} (hF : GoodC d F) (e : F = G) : Ev (fun k => stackyardref04_Same.f k (F.map dec) (G.map dec)) true := by
  have := same_ev (F.map dec) (G.map dec) (good_len hF)
  rw [decide_eq_true (by rw [e])] at this
  exact this

end Go.Proofs.YtkfpgniicfanoaaDoor.Pure
