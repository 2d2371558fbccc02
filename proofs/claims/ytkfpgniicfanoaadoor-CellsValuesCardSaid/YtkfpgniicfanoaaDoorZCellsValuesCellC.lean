/- CellC, for the statement CellsValues: what it needs, no more. -/
import Derived.Test.YtkfpgniicfanoaaDoorZCellsValuesCellB
namespace Go.Proofs.YtkfpgniicfanoaaDoor.Pure
open Go.RowKit Go.Proofs.YtkfpgniicfanoaaDoor.P Go.Proofs.YtkfpgniicfanoaaDoor.Plain Go.Proofs.YtkfpgniicfanoaaDoor.CellA Go.Proofs.YtkfpgniicfanoaaDoor.CellB Go.Proofs.YtkfpgniicfanoaaDoorW.PrintWords Go.Proofs.YtkfpgniicfanoaaDoorW.PrintLast Go.Proofs.YtkfpgniicfanoaaDoorW.PrintMore
set_option linter.unusedVariables false
set_option linter.unusedSimpArgs false
theorem awake_ev : Ev (fun k => stackyardlaw04_awake.f k) true := by
  refine Ev.of stackyardlaw04_awake.mono (k := 200) ?_
  unfold stackyardlaw04_awake.f
  simp only [toList_eq]
  kernel_rfl
/-- What every list in memory is. -/
def Fits (l : List S34) : Prop := (∀ x ∈ l, fit x) ∧ l.length < 9223372036854775807
theorem Below_good {d : Nat} {F G : List Cl} (hF : GoodC d F) (hG : GoodC d G) : Ev (fun k => cells_Below.f k (d : Int) (F.map dec) (G.map dec)) (decide (List.zipWith J F G = G), 0) := by
  refine Ev.bind (Both_good hF hG) ?_
  simp only [if_true]
  refine Ev.bind (Same_ev _ _ (good_len (good_zip hF hG))) ?_
  have : decide ((List.zipWith J F G).map dec = G.map dec) = decide (List.zipWith J F G = G) := decide_eq_decide.2 ⟨decs_inj, fun h => by rw [h]⟩
  rw [this]
  exact Ev.now _
theorem three_ev (a : Int) (l m n : List S34) (hl : Fits l) (hm : Fits m) (hn : Fits n) : Ev (fun k => stackyardlaw04_three.f k a l m n) (decide (chk a l = 0 ∧ chk a m = 0 ∧ chk a n = 0)) := by
  refine Ev.bind (refCheck_ev a l hl.1) ?_
  by_cases h1 : chk a l = 0
  · simp only [h1, if_true, true_and]
    refine Ev.bind (refCheck_ev a m hm.1) ?_
    by_cases h2 : chk a m = 0
    · simp only [h2, if_true, true_and]
      refine Ev.bind (refCheck_ev a n hn.1) ?_
      refine ⟨0, fun k _ => ?_⟩
      rfl
    · simp only [h2, if_false, false_and, decide_false]; exact Ev.now _
  · simp only [h1, if_false, false_and, decide_false]; exact Ev.now _
theorem cases3 (a : Int) (l m n : List S34) (hl : Fits l) (hm : Fits m) (hn : Fits n) : Ev (fun k => stackyardlaw04_three.f k a l m n) false ∨ Ev (fun k => stackyardlaw04_three.f k a l m n) true ∧ ∃ (d : Nat) (F G H : List Cl), a = d ∧ GoodC d F ∧ GoodC d G ∧ GoodC d H ∧ l = F.map dec ∧ m = G.map dec ∧ n = H.map dec := by
  have h3 := three_ev a l m n hl hm hn
  by_cases h : chk a l = 0 ∧ chk a m = 0 ∧ chk a n = 0
  · rw [decide_eq_true h] at h3
    obtain ⟨d, F, rfl, hF, rfl⟩ := chk_good hl.1 h.1
    obtain ⟨d', G, e, hG, rfl⟩ := chk_good hm.1 h.2.1
    obtain rfl : d = d' := by omega
    obtain ⟨d', H, e, hH, rfl⟩ := chk_good hn.1 h.2.2
    obtain rfl : d = d' := by omega
    exact .inr ⟨h3, d, F, G, H, rfl, hF, hG, hH, rfl, rfl, rfl⟩
  · rw [decide_eq_false h] at h3
    exact .inl h3
theorem then_ev {d : Nat} {F G : List Cl} (hF : GoodC d F) (hG : GoodC d G) : Ev (fun k => stackyardlaw04_then.f k (d : Int) (F.map dec) (G.map dec)) ((G.map (ofC F)).map dec) := Ev.bind (Then_good hF hG) (Ev.now _)
theorem values_l0 (L : List S34) (hl : L.length < 9223372036854775807) : ∀ (r i : Nat), i + r = L.length → Ev (fun k => stackyardlaw04_values.l0 k L (i : Int)) ((L.drop i).all fun x => decide (x.f0 = 0))
  | 0, i, h => by
    refine Ev.step (fun k => stackyardlaw04_values.l0.eq_2 ..) ?_
    rw [List.drop_eq_nil_of_le (by omega)]
    have e : ¬ (i : Int) < (L.length : Int) := by omega
    simp only [if_neg e]
    exact Ev.now _
  | r + 1, i, h => by
    refine Ev.step (fun k => stackyardlaw04_values.l0.eq_2 ..) ?_
    have hi : i < L.length := by omega
    have e : (i : Int) < (L.length : Int) := by omega
    have e0 : (0 : Int) ≤ (i : Int) := by omega
    simp only [if_pos e, if_pos e0, wrap_succ i (by omega)]
    rw [rdT_drop L i hi]
    by_cases b : (rd_T34 L (i : Int)).f0 = 0
    · simp only [b, if_true, List.all_cons, decide_true, Bool.true_and]
      exact values_l0 L hl r (i + 1) (by omega)
    · simp only [b, if_false, List.all_cons, decide_false, Bool.false_and]
      exact Ev.now _
theorem values_ev {d : Nat} {F : List Cl} (hF : GoodC d F) : Ev (fun k => stackyardlaw04_values.f k (F.map dec)) (F.all fun x => decide (val x)) := by
  have := values_l0 (F.map dec) (good_len hF) (F.map dec).length 0 (by omega)
  have e : ((F.map dec).all fun x => decide (x.f0 = 0)) = F.all fun x => decide (val x) := by
    rw [List.all_map]
    congr 1
    funext x
    refine decide_eq_decide.2 ?_
    rcases x with _ | ⟨m, _ | a⟩ <;> simp only [dec, val, Function.comp] <;> omega
  rw [List.drop_zero, e] at this
  exact this
theorem CellsValues (a : Int) (l m n : List S34) (hl : Fits l) (hm : Fits m) (hn : Fits n) : Ev (fun k => stackyardlaw04_CellsValues.f k a l m n) true := by
  refine Ev.bind awake_ev ?_
  simp only [if_true]
  rcases cases3 a l m n hl hm hn with h | ⟨h, d, F, G, H, rfl, hF, hG, hH, rfl, rfl, rfl⟩
  · refine Ev.bind h ?_
    simp only [Bool.false_eq_true, if_false]; exact Ev.now _
  · refine Ev.bind h ?_
    simp only [if_true]
    refine Ev.bind (then_ev hF hH) (Ev.bind (then_ev hG hH) ?_)
    have gFH := good_map hF hH
    have gGH := good_map hG hH
    have e1 : ((((H.map (ofC F)).map dec).length : Nat) : Int) = (d : Int) := by rw [List.length_map, gFH.2.1]
    have e2 : ((((H.map (ofC G)).map dec).length : Nat) : Int) = (d : Int) := by rw [List.length_map, gGH.2.1]
    simp only [if_pos e1, if_pos e2]
    have key : Ev (fun k => stackyardlaw04_CellsValues.j0 k (d : Int) (F.map dec) (G.map dec) ((H.map (ofC F)).map dec) ((H.map (ofC G)).map dec) false) true := by
      refine Ev.step (fun k => stackyardlaw04_CellsValues.j0.eq_2 ..) ?_
      simp only [Bool.false_eq_true, if_false]
      refine Ev.bind (Below_good hF hG) (Ev.bind (Below_good gFH gGH) ?_)
      simp only [if_true, decide_eq_true_eq]
      by_cases e : List.zipWith J F G = G
      · simp only [if_pos e]
        have := over2 F G (by rw [hF.2.1, hG.2.1]) H
        rw [e] at this
        rw [decide_eq_true this.symm]
        exact Ev.now _
      · simp only [if_neg e]; exact Ev.now _
    refine Ev.bind (values_ev hF) ?_
    by_cases hv : (F.all fun x => decide (val x)) = true
    · simp only [if_pos hv]
      refine Ev.bind (values_ev gFH) ?_
      have hvF : ∀ x ∈ F, val x := fun x hx => of_decide_eq_true (List.all_eq_true.1 hv x hx)
      have : ((H.map (ofC F)).all fun x => decide (val x)) = true := by
        rw [List.all_eq_true]
        intro x hx
        obtain ⟨c, _, rfl⟩ := List.mem_map.1 hx
        exact decide_eq_true (val_ofC hvF c)
      rw [this]
      exact key
    · simp only [if_neg hv]
      exact key

end Go.Proofs.YtkfpgniicfanoaaDoor.Pure
